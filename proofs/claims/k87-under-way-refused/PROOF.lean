import PyProof.Rows.All
import Wide.All
import OpenK.AllK
import Wide.FinOn
import KE.KStateDown
import Lean
import HandS.ForMost
import HandS.ForExc
import HandS.Defaults
import HandS.Head0
import HandS.Head1
import HandS.Head2
import HandS.HeadEnd
import HandS.HeadHook1
import HandS.HeadHook2
import HandS.Steps
import HandS.Walk
import HandS.Evl
import HandS.IsInst
import HandS.TupMul
import HandS.TupAny
import HandS.SetFor
import HandS.Strs
import HandS.Zip
import HandS.Rev
import HandS.Conv
import HandS.Style
import HandS.Deep
import KE.GoesEnum
import KE.GoesMore
import PyProof.ReprReads
import PyProof.ReprRoads
import HandS.RaiseMore
import HandS.SortInts
import HandS.ExcIs
import KE.GoesZip
import HandS.TryOnly
import HandS.Lambda
import HandS.EndTab
import HandS.EndBits
import HandS.HeadHook4
import HandS.WrittenGet
import HandS.SortKw
import HandS.HeadWalk
import PyProof.StrLawsRepr
import PySem.Challenge.RW_turnshelf_k87_under_way_refused
set_option Elab.async false
set_option linter.all false
set_option maxRecDepth 100000
set_option maxHeartbeats 4000000
/-! TsBase: promises of defs where no guard of repr runs (so that repr of data may be asked), calls by them, the law's end. -/
namespace Ts
open PySem PySem.Spec PyProof.Rows L2

/-- room, and no guarded call is under way -/
structure GRoom (k : Nat) (A : Around) : Prop where
  rm : Room k A
  gd : A.guards = some []
theorem GRoom.mono {j k : Nat} {A : Around} (r : GRoom k A) (h : j ≤ k) : GRoom j A := ⟨r.rm.mono h, r.gd⟩
theorem GRoom.deeper {k : Nat} {A : Around} (r : GRoom (k + 1) A) (env : Env) : GRoom k (A.deeper env) := ⟨r.rm.deeper env, r.gd⟩
theorem make_guards {A : Around} {C : Addr} {us : List Value} {kw : List (Str × Value)} : (A.under (.builtin "type.__call__" ⟨.ref C :: us, kw⟩)).guards = A.guards := by
  have hz : (Code.builtin "type.__call__" ⟨.ref C :: us, kw⟩).guards = [] := by
    have e : (Code.builtin "type.__call__" ⟨.ref C :: us, kw⟩).isGuard = false := by
      show guardIds.contains "type.__call__" = false
      decide +kernel
    unfold Code.guards
    rw [e]
    rfl
  simp [Around.under, hz, pushGuards]
theorem GRoom.make {k : Nat} {A : Around} (r : GRoom (k + 1) A) (C : Addr) (us : List Value) (kw : List (Str × Value)) :
    GRoom k (A.under (.builtin "type.__call__" ⟨.ref C :: us, kw⟩)) := ⟨r.rm.make C us kw, make_guards.trans r.gd⟩

/-- the def at f keeps the promise sp, called by places -/
structure GFn (P : Program) (w : World) (K : PySem.W.Frag) (mg : Str → Option Value) (base : Heap) (k : Nat) (f : Addr) (ps : List Str) (sp : Sp) : Prop where
  len : ∀ vs H Q E, sp vs H Q E → vs.length = ps.length
  kp : PySem.W.keepIn K (.ref f) = true
  run : ∀ (A : Around) (outer : List Env) (s : Shared) (H : Hp) (us : List Value) (vs : List V) (Q : VK) (E : XK), GRoom k A → Env0 P w K mg base A outer s H → Vals vs us → sp vs H Q E →
    codeAny (model P w) A (.call (.ref f) ⟨us, []⟩) (CR (L2.CX P w) outer P w H s Q E) s
theorem GFn.mono {P : Program} {w : World} {K : PySem.W.Frag} {mg : Str → Option Value} {base : Heap} {j k : Nat} {f : Addr} {ps : List Str} {sp : Sp} (F : GFn P w K mg base j f ps sp) (h : j ≤ k) : GFn P w K mg base k f ps sp :=
  ⟨F.len, F.kp, fun A outer s H us vs Q E hr => F.run A outer s H us vs Q E (hr.mono h)⟩

/-! ### a def of the text -/
abbrev BindsP (ps : List Str) (d : He.DefD) : Prop := ∀ (kV doc pm : Value) (an : Option Addr) (cdv ct : Value) (us : List Value), us.length = ps.length →
  bindArgs (PySem.W.fnOf d.name d.qual d.params d.body d.scope .none kV doc pm an cdv ct) ⟨us, []⟩ = pure (ps.zip us)
section
variable {P : Program} {w : World} {K : PySem.W.Frag} {mg : Str → Option Value} {base : Heap}
abbrev bodyCx (P : Program) (w : World) (K : PySem.W.Frag) (mg : Str → Option Value) (base : Heap) (N : List Str) (d : He.DefD) (cdv : Value) (A : Around) (outer : List Env) (s : Shared) (H : Hp) (E : XK) : Cx :=
  cxOf (L2.CX P w) P w K mg base N d.qual d.scope (He.fAd K d.at_) cdv A outer s H E
/-- a def's body, read at the very state of the call -/
theorem run_at {d : He.DefD} {fd : FuncData} {N ps : List Str} {k : Nat} (F : FunD K d.name d.qual d.params d.body d.scope [] [] (He.fAd K d.at_) fd) (S : FnScope N ps d.scope) (hb : BindsP ps d)
    {A : Around} {outer : List Env} {s : Shared} {H : Hp} {us : List Value} {vs : List V} {Q : VK} {E : XK} (hr : GRoom (k + 1) A) (e0 : Env0 P w K mg base A outer s H) (rv : Vals vs us) (hl : vs.length = ps.length)
    (hbody : ∀ cdv : Value, cdv = .ref (He.codeOf K d.at_) → GRoom k (A.deeper (envOfC d.qual d.scope s.heap.objs.size (He.fAd K d.at_) cdv)) →
      ∃ t, PSs (bodyCx P w K mg base N d cdv A outer s H E) d.body t ∧ t { nx := fun _ H' => Q .non H', rt := Q } (start N vs) H) :
    codeAny (model P w) A (.call (.ref (He.fAd K d.at_)) ⟨us, []⟩) (CR (L2.CX P w) outer P w H s Q E) s := by
  obtain ⟨oc, od, dV, kV, doc, pm, an, cdv, ct, osl, rfl, lk, hcd, hD, _⟩ := F.ex
  have hdV : dV = .none := by
    rcases hD with ⟨_, z⟩ | ⟨z, _⟩
    · exact z
    · exact absurd rfl z
  subst hdV
  have hin : K.In s.heap := e0.mod.kin.keeps (fun b o e => (e0.bs b o e).1)
  have hlim : s.heap.NoLimit := e0.mod.nolimit.keeps (fun b o e => (e0.bs b o e).1)
  have kinds : ∀ y ∈ ps.zip us, d.scope.names.lookup y.1 = some .local ∨ (d.scope.names.lookup y.1 = some .cell ∧ ((cellsFrom (s.heap.objs.size + 1) d.scope.names []).lookup y.1).isSome = true) := by
    rintro ⟨n, v⟩ hy
    cases S.par n (List.of_mem_zip hy).1 with
    | inl q => exact Or.inl q
    | inr q => exact Or.inr ⟨q, PySem.W.cellsFrom_some _ _ _ (Or.inl q)⟩
  have hbd : bindArgs (PySem.W.fnOf d.name d.qual d.params d.body d.scope .none kV doc pm an cdv ct) ⟨us, []⟩ = pure (ps.zip us) := hb kV doc pm an cdv ct us (by rw [← rv.length]; exact hl)
  refine codeAny_call_function hr.rm.depth (hin _ _ lk) rfl S.co S.gen rfl (PySem.W.codeRec_of hin hcd) ((BindsTo.of_eq hbd) _ _ _ _ ?_)
  refine wpAny_newFunctionEnv_cells S.kind kinds (fun env he s1 x => ?_)
  subst he
  refine ⟨hlim.keeps x.toInCall.keep, codeAny_func ?_⟩
  obtain ⟨t, ht, hq⟩ := hbody cdv (by
    obtain ⟨c, rfl⟩ := He.codeIn_ref hcd
    rw [He.codeOf_eq lk rfl]) (hr.deeper _)
  have J0 : Inv (bodyCx P w K mg base N d cdv A outer s H E) [] (start N vs) H s1 := inv_start S hr.rm.hd e0 hl rv x
  refine wpAny_mono (ht.run [] s1 (start N vs) H _ J0 hq) (fun fl s' hs => ?_) (fun e s' hs => hs)
  have close : ∀ {σ' : L2.St} {H' : Hp} {v : V} {u : Value}, Inv (bodyCx P w K mg base N d cdv A outer s H E) [] σ' H' s' → RelV v u → Q v H' → CE outer P w H s Q u s' := by
    intro σ' H' v u J r q
    exact ⟨v, H', J.os, J.bare, J.base, J.hok, r, q⟩
  cases fl with
  | next =>
    obtain ⟨_, _, J, q⟩ := hs
    exact close (v := V.non) (u := Value.none) J rfl q
  | ret u =>
    obtain ⟨_, _, _, J, r, q⟩ := hs
    exact close J r q
  | brk => exact (hs.choose_spec.choose_spec.2 : False).elim
  | cont => exact (hs.choose_spec.choose_spec.2 : False).elim
/-- a def by its body, in which things may be raised -/
theorem okXc {d : He.DefD} {fd : FuncData} {N ps : List Str} {k : Nat} {sp : Sp} (F : FunD K d.name d.qual d.params d.body d.scope [] [] (He.fAd K d.at_) fd) (S : FnScope N ps d.scope)
    (len : ∀ vs H Q E, sp vs H Q E → vs.length = ps.length) (hb : BindsP ps d)
    (hbody : ∀ (cdv : Value), cdv = .ref (He.codeOf K d.at_) → ∀ (A : Around) (outer : List Env) (s : Shared) (H : Hp) (vs : List V) (Q : VK) (E : XK), GRoom k (A.deeper (envOfC d.qual d.scope s.heap.objs.size (He.fAd K d.at_) cdv)) → sp vs H Q E →
      ∃ t, PSs (bodyCx P w K mg base N d cdv A outer s H E) d.body t ∧ t { nx := fun _ H' => Q .non H', rt := Q } (start N vs) H) :
    GFn P w K mg base (k + 1) (He.fAd K d.at_) ps sp :=
  ⟨len, F.kp, fun A outer s H us vs Q E hr e0 rv hsp => run_at F S hb hr e0 rv (len vs H Q E hsp) fun cdv hc hr2 => hbody cdv hc A outer s H vs Q E hr2 hsp⟩
theorem okX {d : He.DefD} {fd : FuncData} {N ps : List Str} {k : Nat} {sp : Sp} (F : FunD K d.name d.qual d.params d.body d.scope [] [] (He.fAd K d.at_) fd) (S : FnScope N ps d.scope)
    (len : ∀ vs H Q E, sp vs H Q E → vs.length = ps.length) (hb : BindsP ps d)
    (hbody : ∀ (cdv : Value) (A : Around) (outer : List Env) (s : Shared) (H : Hp) (vs : List V) (Q : VK) (E : XK), GRoom k (A.deeper (envOfC d.qual d.scope s.heap.objs.size (He.fAd K d.at_) cdv)) → sp vs H Q E →
      ∃ t, PSs (bodyCx P w K mg base N d cdv A outer s H E) d.body t ∧ t { nx := fun _ H' => Q .non H', rt := Q } (start N vs) H) :
    GFn P w K mg base (k + 1) (He.fAd K d.at_) ps sp := okXc F S len hb fun cdv _ => hbody cdv
/-- a def by its body, of which nothing is let out -/
theorem ok0 {d : He.DefD} {fd : FuncData} {N ps : List Str} {k : Nat} {sp : Sp} (F : FunD K d.name d.qual d.params d.body d.scope [] [] (He.fAd K d.at_) fd) (S : FnScope N ps d.scope)
    (len : ∀ vs H Q E, sp vs H Q E → vs.length = ps.length) (hb : BindsP ps d)
    (hbody : ∀ (cdv : Value) (A : Around) (outer : List Env) (s : Shared) (H : Hp) (vs : List V) (Q : VK) (E : XK), GRoom k (A.deeper (envOfC d.qual d.scope s.heap.objs.size (He.fAd K d.at_) cdv)) → sp vs H Q E →
      ∃ t, PSs (bodyCx P w K mg base N d cdv A outer s H E).nox d.body t ∧ t { nx := fun _ H' => Q .non H', rt := Q } (start N vs) H) :
    GFn P w K mg base (k + 1) (He.fAd K d.at_) ps sp :=
  okX F S len hb fun cdv A outer s H vs Q E hr hsp => by
    obtain ⟨t, h, q⟩ := hbody cdv A outer s H vs Q E hr hsp
    exact ⟨t, h.nox, q⟩
end

/-! ### calls -/
section
variable {X : Cx} {k : Nat} {f C : Addr} {ps : List Str} {sp : Sp} {E : L2.St → XK} {x m : Str} {p pos apos : Pos} {e o : Expr} {es : List Expr} {ta : TE} {t : TA}
/-- nothing leaves -/
abbrev EN : L2.St → XK := fun _ _ _ _ => False
theorem pn {X : Cx} (σ : L2.St) : PassesAt (L2.CX X.prog X.w) X σ (EN σ) := by
  intro _ _ _ _ _ _ h
  obtain ⟨_, _, _, _, _, _, _, _, _, _, _, _, z⟩ := h
  exact z.elim
theorem g_run {pins : List (Addr × Obj)} {σ : L2.St} {H : Hp} {s : Shared} {Q : VK} {us : List Value} {vs : List V} (F : GFn X.prog X.w X.K X.mg X.base k f ps sp) (hr : GRoom k X.A) (hx : PassesAt (L2.CX X.prog X.w) X σ (E σ))
    (I : Inv X pins σ H s) (r : Vals vs us) (h : sp vs H Q (E σ)) : wpAny (model X.prog X.w) X.A (call (.ref f) us) (EP X pins σ Q) X.xe s := by
  refine wpAny_call (codeAny_mono (F.run X.A X.stack s H us vs Q (E σ) hr I.env0 r h) (fun r s' hq => ?_))
  match r, hq with
  | .error e, hq => exact hx pins H s e s' I hq
  | .ok (.ret u), hq => exact I.after hq
/-- f(e, ..) -/
theorem gc (F : GFn X.prog X.w X.K X.mg X.base k f ps sp) (hr : GRoom k X.A) (hm : X.mg x = some (.ref f)) (hx : ∀ σ, PassesAt (L2.CX X.prog X.w) X σ (E σ)) (ha : PA X (e :: es) t) (hg : Gl X x := by rfl) (hdb : (x == ("__debug__" : Str)) = false := by decide)
    (he : starEach (e :: es) X.env = (false, eval e X.env) :: starEach es X.env := by rfl) (hpl : (backTo pos (starEach es X.env)).any (·.1) = false := by rfl) :
    PE X (.Call (.Name x p) (e :: es) [] pos) (tCallS sp E t) := by
  constructor
  intro pins s σ H Q I h
  refine wpAny_Call_Name_kw (ld_glob I hg hm
    (PySem.W.callWith_K (h₀ := X.base) I.ok.mod.kin F.kp (thn (ha.run pos pins s σ H _ I h) fun us s1 h1 => ?_) he hpl) hdb)
  obtain ⟨vs, H1, I1, r, q⟩ := h1
  exact ⟨I1.kIn, g_run F hr (hx σ) I1 r q⟩
/-- f() -/
theorem gc0 (F : GFn X.prog X.w X.K X.mg X.base k f ps sp) (hr : GRoom k X.A) (hm : X.mg x = some (.ref f)) (hx : ∀ σ, PassesAt (L2.CX X.prog X.w) X σ (E σ)) (hg : Gl X x := by rfl) (hdb : (x == ("__debug__" : Str)) = false := by decide) :
    PE X (.Call (.Name x p) [] [] pos) (tCallS sp E tNil) := by
  constructor
  intro pins s σ H Q I h
  exact wpAny_Call_Name_kw (ld_glob I hg hm (PySem.W.callWith_K0 I.kIn F.kp (g_run (us := []) F hr (hx σ) I .nil h)) hdb)
/-- o.m(..) of an instance of the class at C -/
def tMethS (C : Addr) (m : Str) (sp : Sp) (E : L2.St → XK) (ta : TE) (t : TA) : TE := fun σ H Q => ta σ H fun x H1 => ∃ a dx fs, x = .ref a ∧ H1 a = some (.ins C dx fs) ∧ fs.lookup m = none ∧
  t σ H1 fun vs H2 => sp (x :: vs) H2 Q (E σ)
theorem gm {pl : Sem Bool} (F : GFn X.prog X.w X.K X.mg X.base k f ps sp) (hr : GRoom k X.A) (c : Cls X.K C) (hm : Meth X.K C m f) (hx : ∀ σ, PassesAt (L2.CX X.prog X.w) X σ (E σ)) (he : PE X o ta) (ha : PA X (e :: es) t)
    (hst : starEach (e :: es) X.env = (false, eval e X.env) :: starEach es X.env := by rfl) (hpl : (backTo pos (starEach es X.env)).any (·.1) = false := by rfl)
    (ht : eval (.Call (.Attribute o m apos) (e :: es) [] pos) X.env = (do
      let ov ← eval o X.env
      standAt apos.atName
      let (g, first) ← holding [ov] (getMethod ov m pl)
      callWith pos g first (backTo pos (starEach (e :: es) X.env)) (backToKw pos (keywordEach [] X.env))) := by rfl) :
    PE X (.Call (.Attribute o m apos) (e :: es) [] pos) (tMethS C m sp E ta t) := by
  constructor
  intro pins s σ H Q I h
  refine PySem.W.methodCall_KW (pl := pl) (thn (he.run pins s σ H _ I h) fun u s1 h1 => ?_) ht
  obtain ⟨x, H1, I1, rx, a, dx, fs, ex, ea, l, q⟩ := h1
  subst ex
  have eu : u = Value.ref a := rx
  subst eu
  refine getmeth_ok I1 ea c hm l
    (PySem.W.callWith_K (first := [.ref a]) (h₀ := X.base) I.ok.mod.kin hm.kp (thn (ha.run pos pins s1 σ H1 _ I1 q) fun us s2 h2 => ?_) hst hpl)
  obtain ⟨vs, H2, I2, r, q2⟩ := h2
  exact ⟨I2.kIn, g_run (us := .ref a :: us) (vs := .ref a :: vs) F hr (hx σ) I2 (.cons rfl r) q2⟩
/-- o.m() -/
theorem gm0 {pl : Sem Bool} (F : GFn X.prog X.w X.K X.mg X.base k f ps sp) (hr : GRoom k X.A) (c : Cls X.K C) (hm : Meth X.K C m f) (hx : ∀ σ, PassesAt (L2.CX X.prog X.w) X σ (E σ)) (he : PE X o ta)
    (ht : eval (.Call (.Attribute o m apos) [] [] pos) X.env = (do
      let ov ← eval o X.env
      standAt apos.atName
      let (g, first) ← holding [ov] (getMethod ov m pl)
      callWith pos g first (backTo pos (starEach [] X.env)) (backToKw pos (keywordEach [] X.env))) := by rfl) :
    PE X (.Call (.Attribute o m apos) [] [] pos) (tMethS C m sp E ta tNil) := by
  constructor
  intro pins s σ H Q I h
  refine PySem.W.methodCall_KW (pl := pl) (thn (he.run pins s σ H _ I h) fun u s1 h1 => ?_) ht
  obtain ⟨x, H1, I1, rx, a, dx, fs, ex, ea, l, q⟩ := h1
  subst ex
  have eu : u = Value.ref a := rx
  subst eu
  exact getmeth_ok I1 ea c hm l (PySem.W.callWith_K0 (first := [.ref a]) I1.kIn hm.kp (g_run (us := [.ref a]) (vs := [.ref a]) F hr (hx σ) I1 (.cons rfl .nil) q))

/-- C(..): a new instance, then __init__ -/
def tMakeS (C : Addr) (sp : Sp) (E : L2.St → XK) (t : TA) : TE := fun σ H Q => t σ H fun vs H1 => ∀ x dx, H1 x = none → H1 dx = none → dx ≠ x →
  sp (.ref x :: vs) (upd (upd H1 dx (.own x)) x (.ins C dx [])) (fun v H2 => v = .non ∧ Q (.ref x) H2) (E σ)
/-- what may leave __init__ is seen from the heap with the new instance in it -/
def PassesMk (X : Cx) (E : L2.St → XK) : Prop := ∀ (σ : L2.St), PassesAt (L2.CX X.prog X.w) X σ (E σ)
theorem g_make {pins : List (Addr × Obj)} {σ : L2.St} {H : Hp} {s : Shared} {Q : VK} {us : List Value} {vs : List V} (M : Mk X.K C f) (F : GFn X.prog X.w X.K X.mg X.base k f ps sp) (hr : GRoom (k + 1) X.A) (hx : ∀ σ, PassesAt (L2.CX X.prog X.w) X σ (E σ))
    (I : Inv X pins σ H s) (r : Vals vs us)
    (h : ∀ x dx, H x = none → H dx = none → dx ≠ x → sp (.ref x :: vs) (upd (upd H dx (.own x)) x (.ins C dx [])) (fun v H2 => v = .non ∧ Q (.ref x) H2) (E σ)) :
    wpAny (model X.prog X.w) X.A (call (.ref C) us) (EP X pins σ Q) X.xe s := by
  have n0 : H s.heap.objs.size = none := I.hok.fresh (Nat.le_refl _)
  have n1 : H (s.heap.objs.size + 1) = none := I.hok.fresh (Nat.le_succ _)
  have hq := h _ _ n1 n0 (Nat.ne_of_lt (Nat.lt_succ_self _))
  have I2 := Inv.made (C := C) I
  have r2 : Vals (V.ref (s.heap.objs.size + 1) :: vs) (Value.ref (s.heap.objs.size + 1) :: us) := Paired.cons rfl r
  refine wpAny_call (make_map (f := f) I.kIn M.makes M.init (beq_iff_eq.mp M.fn)
    (codeAny_mono (F.run _ X.stack _ _ (Value.ref (s.heap.objs.size + 1) :: us) _ _ (E σ) (hr.make C us []) (I2.env0.make C us []) r2 hq) (fun r s' h2 => ?_)))
  match r, h2 with
  | .error e, h2 => exact hx σ pins _ _ e s' I2 h2
  | .ok (.ret u), h2 =>
    obtain ⟨v, H', I3, rv, ev, q3⟩ := I2.after h2
    subst ev
    exact ⟨rv, ⟨V.ref (s.heap.objs.size + 1), H', I3, rfl, q3⟩⟩
theorem gk (M : Mk X.K C f) (F : GFn X.prog X.w X.K X.mg X.base k f ps sp) (hr : GRoom (k + 1) X.A) (hm : X.mg x = some (.ref C)) (hx : ∀ σ, PassesAt (L2.CX X.prog X.w) X σ (E σ)) (ha : PA X (e :: es) t) (hg : Gl X x := by rfl)
    (hdb : (x == ("__debug__" : Str)) = false := by decide) (he : starEach (e :: es) X.env = (false, eval e X.env) :: starEach es X.env := by rfl) (hpl : (backTo pos (starEach es X.env)).any (·.1) = false := by rfl) :
    PE X (.Call (.Name x p) (e :: es) [] pos) (tMakeS C sp E t) := by
  constructor
  intro pins s σ H Q I h
  refine wpAny_Call_Name_kw (ld_glob I hg hm
    (PySem.W.callWith_K (h₀ := X.base) I.ok.mod.kin M.kp (thn (ha.run pos pins s σ H _ I h) fun us s1 h1 => ?_) he hpl) hdb)
  obtain ⟨vs, H1, I1, r, q⟩ := h1
  exact ⟨I1.kIn, g_make M F hr hx I1 r q⟩
theorem gk0 (M : Mk X.K C f) (F : GFn X.prog X.w X.K X.mg X.base k f ps sp) (hr : GRoom (k + 1) X.A) (hm : X.mg x = some (.ref C)) (hx : ∀ σ, PassesAt (L2.CX X.prog X.w) X σ (E σ)) (hg : Gl X x := by rfl)
    (hdb : (x == ("__debug__" : Str)) = false := by decide) : PE X (.Call (.Name x p) [] [] pos) (tMakeS C sp E tNil) := by
  constructor
  intro pins s σ H Q I h
  exact wpAny_Call_Name_kw (ld_glob I hg hm (PySem.W.callWith_K0 I.kIn M.kp (g_make (us := []) M F hr hx I .nil h)) hdb)
end
end Ts
namespace Ts
open PySem PySem.Spec PyProof.Rows L2
/-! ### the law's end -/
section
variable {P : Program} {w : World} {K : PySem.W.Frag} {mg mb : Str → Option Value} {k : Nat} {fa a : Addr} {sp : Sp} {s1 : Shared} {vs : List Value} {ns : List Int}
/-- what is wanted of the law's call -/
abbrev Told (s1 : Shared) : Result → Shared → Prop := fun r s' => r = .ok (.ret (.bool true)) ∧ OldK s1.heap s'.heap ∧ s'.os = s1.os ∧ AllBare s'.gens
/-- from an abstract heap that tracks the script alone, or nothing -/
theorem end_core {x : Str} {H : Hp} (KX : K.In s1.heap) (hns : s1.heap.Ns mainGlobals mg) (hb : s1.heap.Ns builtinsNs mb) (hbb : ∀ y : Str, y ≠ "__name__" → mb y = bootBuiltins y) (hlim : s1.heap.NoLimit) (hg : s1.gens = #[])
    (ha : s1.heap.get? a = some { cls := .type "list", data := .seq vs.toArray }) (hr : GRoom k callerA)
    (F : ∀ base : Heap, K.In base → base.Ns mainGlobals mg → GFn P w K mg base k fa [x] sp)
    (hsp : sp [.ref a] H (fun v _ => v = .bl true) fun _ _ _ => False) (hok : HOk P w H s1.heap) (hA : ∀ b, H b ≠ none → b = a ∧ K.lookup a = none) (hO : Only H) :
    codeAny (model P w) callerA (.call (.ref fa) ⟨[.ref a], []⟩) (Told s1) s1 := by
  have keepB : ∀ {b : Addr} {o : Obj}, s1.heap.get? b = some o → H b = none → (hidT s1.heap H).get? b = some o := fun e n => hidT_get e n
  have noD : ∀ {b : Addr} {o : Obj} {es : Array DictEntry} {ep : Nat}, s1.heap.get? b = some o → o.data = .dict es ep → H b = none := by
    intro b o es ep e d
    apply Classical.byContradiction
    intro n
    have eb := (hA b n).1
    rw [eb, ha] at e
    cases e
    exact absurd d (by intro z; cases z)
  have nsB : ∀ {b : Addr} {m : Str → Option Value}, s1.heap.Ns b m → (hidT s1.heap H).Ns b m := by
    rintro b m ⟨o, es, ep, e, d, r⟩
    exact ⟨o, es, ep, keepB e (noD e d), d, r⟩
  have kB : K.In (hidT s1.heap H) := by
    intro b o e
    refine keepB (KX b o e) (Classical.byContradiction fun n => ?_)
    obtain ⟨eb, el⟩ := hA b n
    rw [eb, el] at e
    cases e
  have limB : (hidT s1.heap H).NoLimit := by
    obtain ⟨mc, h1, h2⟩ := hlim
    exact ⟨mc, nsB h1, h2⟩
  have md : Mod K mg (hidT s1.heap H) := ⟨kB, nsB hns, ⟨mb, nsB hb, hbb⟩, limB⟩
  have nomem : ∀ (b : Addr), b ∉ frs ([] : List Env) := fun b z => by cases z
  have e0 : Env0 P w K mg (hidT s1.heap H) callerA [] s1 H :=
    { frames := rfl, mod := md, bs := fun b o e => of_hidT e, bsz := Nat.le_of_eq (hidT_size _ _), funs := trivial, frf := fun b z => absurd z (nomem b), hok := hok, bare := .of_eq hg }
  refine codeAny_mono ((F _ kB (nsB hns)).run callerA [] s1 H [.ref a] [.ref a] _ _ hr e0 (Paired.cons rfl Paired.nil) hsp) (fun r s' h => ?_)
  match r, h with
  | .error e, h =>
    obtain ⟨_, _, _, _, _, _, _, _, _, _, _, _, z⟩ := h
    exact z.elim
  | .ok (.ret u), h =>
    obtain ⟨v, H', os, bare, un, hok', r', q⟩ := h
    have ev : v = .bl true := q
    subst ev
    have eu : u = Value.bool true := r'
    subst eu
    refine ⟨rfl, OldK.of_keep (fun b o e => ?_), os, bare⟩
    rcases hO b with z | ⟨ob, xs, z⟩
    · exact un.keep b o e z (nomem b) (by simp)
    · have q1 := (hok b _ z).1
      have q2 := (hok' b _ (un.frzs b ob _ z)).1
      rw [q2, ← q1, e]
theorem law_end {x : Str} (KX : K.In s1.heap) (hns : s1.heap.Ns mainGlobals mg) (hb : s1.heap.Ns builtinsNs mb) (hbb : ∀ y : Str, y ≠ "__name__" → mb y = bootBuiltins y) (hlim : s1.heap.NoLimit) (hg : s1.gens = #[])
    (ha : s1.heap.get? a = some { cls := .type "list", data := .seq vs.toArray }) (hi : IntsAre vs ns) (hl : ns.length ≤ sizeLine) (hr : GRoom k callerA)
    (F : ∀ base : Heap, K.In base → base.Ns mainGlobals mg → GFn P w K mg base k fa [x] sp)
    (hsp : ∀ H : Hp, SqL K H a (ns.map V.int) → sp [.ref a] H (fun v _ => v = .bl true) fun _ _ _ => False) :
    codeAny (model P w) callerA (.call (.ref fa) ⟨[.ref a], []⟩) (Told s1) s1 := by
  have rv := vals_ints hi
  have lv := hi.length
  cases hk : K.lookup a with
  | some o =>
    have e := KX a o hk
    rw [ha] at e
    cases e
    refine end_core (H := fun _ => none) KX hns hb hbb hlim hg ha hr F (hsp _ ?_) (fun b u z => by cases z) (fun b z => absurd rfl z) (fun _ => .inl rfl)
    exact .inr ⟨_, vs.toArray, _, hk, rfl, rfl, rfl, by rw [List.size_toArray, lv]; exact hl, by simpa using rv⟩
  | none =>
    let ob : Obj := { cls := .type "list", data := .seq vs.toArray }
    let H : Hp := fun b => if b = a then some (.frz ob (.lst (ns.map V.int))) else none
    have hHa : H a = some (.frz ob (.lst (ns.map V.int))) := if_pos rfl
    refine end_core (H := H) KX hns hb hbb hlim hg ha hr F (hsp _ (.inl (.inr ⟨ob, hHa⟩))) (fun b u z => ?_) (fun b z => ⟨Classical.byContradiction fun n => z (if_neg n), hk⟩) (fun b => ?_)
    · by_cases eb : b = a
      · subst eb
        rw [hHa] at z
        cases z
        exact ⟨ha, by rw [List.length_map]; exact hl, vs, _, rv, ha⟩
      · have z2 : H b = none := if_neg eb
        rw [z2] at z
        cases z
    · by_cases eb : b = a
      · exact .inr ⟨ob, _, by rw [eb]; exact hHa⟩
      · exact .inl (if_neg eb)
end
theorem groom_caller {k : Nat} (h : Room k callerA) : GRoom k callerA := ⟨h, rfl⟩
/-- the law over a head by facts -/
theorem walkG {l : PySem.W.OpenLaw} {n k : Nat} {q : Program} {loose : List Str} {XP : (Str → Option Value) → Heap → Prop} {YP : World → Heap → Prop} {d : DefRec} {x : Str}
    (hn : l.most = some n) (hn2 : n ≤ sizeLine) (hdf : d.params.defaults = []) (hr : Room k callerA)
    (F : ∀ (w : World) (mg : Str → Option Value) (fa : Addr) (h : Heap), YP w h → h.Ns mainGlobals mg → mg d.name = some (.ref fa) →
      ∃ (K : PySem.W.Frag) (sp : Sp), K.In h ∧ (∀ (H : Hp) (a : Addr) (ns : List Int), ns.length ≤ n → SqL K H a (ns.map V.int) → sp [.ref a] H (fun v _ => v = .bl true) fun _ _ _ => False) ∧
        ∀ base : Heap, K.In base → base.Ns mainGlobals mg → GFn l.prog w K mg base k fa [x] sp) :
    PySem.W.WalkO q loose XP YP l.row.toRowW d [] (fun f vs => PySem.call f vs) := by
  refine Att.attach_call hn hdf fun w s0 s1 mg mb fa o pm cd doc a vs ns G Y ho hd hcd hmg hobj hints hlen hg => ?_
  obtain ⟨K, sp, KX, hsp, hF⟩ := F w mg fa _ Y G.T.g hmg
  exact law_end KX G.T.g G.T.b G.T.builtins G.T.nolimit hg hobj hints (Nat.le_trans hlen hn2) (groom_caller hr) hF fun H hS => hsp H a ns hlen hS
/-- what the walk asks of the text as the top has left it -/
structure Tx (fa : List He.Fa) (fn : List He.DefD) (K : PySem.W.Frag) (mg : Str → Option Value) : Prop where
  says : He.SaysD fa fn K
  glo : ∀ x, (He.Fa.glo x).ok K = true → mg x = some (.ref (He.ga K x))
  free : ∀ x, (He.Fa.free x).ok K = true → mg x = none
  int : ∀ x i, (He.Fa.int x i).ok K = true → ∃ t, mg x = some (.int i t)
  str : ∀ x z, (He.Fa.str x z).ok K = true → ∃ t, mg x = some (.str z t)
theorem tx_of {fa : List He.Fa} {fn : List He.DefD} {K : PySem.W.Frag} {h : Heap} {mg : Str → Option Value} (X : K.In h) (G : h.Ns mainGlobals mg) (c : He.SaysD fa fn K) : Tx fa fn K mg :=
  ⟨c, fun _ e => He.glo_ok X G e, fun _ e => He.free_ok X G e, fun _ _ e => He.int_ok X G e, fun _ _ e => He.str_ok X G e⟩
section
variable {fa : List He.Fa} {fn : List He.DefD} {K : PySem.W.Frag} {mg : Str → Option Value}
theorem Tx.g (T : Tx fa fn K mg) (i : Nat) {x : Str} (h : fa[i]? = some (.glo x) := by rfl) : mg x = some (.ref (He.ga K x)) := T.glo _ (T.says.fact i h)
theorem Tx.b (T : Tx fa fn K mg) (i : Nat) {x : Str} (h : fa[i]? = some (.free x) := by rfl) : mg x = none := T.free _ (T.says.fact i h)
theorem Tx.i (T : Tx fa fn K mg) (i : Nat) {x : Str} {n : Int} (h : fa[i]? = some (.int x n) := by rfl) : ∃ t, mg x = some (.int n t) := T.int _ _ (T.says.fact i h)
theorem Tx.s (T : Tx fa fn K mg) (i : Nat) {x z : Str} (h : fa[i]? = some (.str x z) := by rfl) : ∃ t, mg x = some (.str z t) := T.str _ _ (T.says.fact i h)
theorem Tx.cls (T : Tx fa fn K mg) (i : Nat) {x : Str} (h : fa[i]? = some (.cls x) := by rfl) : Cls K (He.ga K x) := He.cls_ok (T.says.fact i h)
theorem Tx.noat (T : Tx fa fn K mg) (i : Nat) {x f : Str} (h : fa[i]? = some (.noat x f) := by rfl) : NoAttr K (He.ga K x) f := He.noat_ok (T.says.fact i h)
theorem Tx.meth (T : Tx fa fn K mg) (i : Nat) {x m : Str} (h : fa[i]? = some (.meth x m) := by rfl) : Meth K (He.ga K x) m (He.ma K (He.ga K x) m) := He.meth_ok (T.says.fact i h)
theorem Tx.mkr (T : Tx fa fn K mg) (i : Nat) {x : Str} (h : fa[i]? = some (.mkr x) := by rfl) : Mk K (He.ga K x) (He.ma K (He.ga K x) "__init__") := He.mkr_ok (T.says.fact i h)
end
/-- a module's int -/
theorem pgi {X : Cx} {x : Str} {n : Int} {pos : Pos} (h : ∃ t, X.mg x = some (.int n t)) (hg : Gl X x := by rfl) (hd : (x == ("__debug__" : Str)) = false := by decide) : PE X (.Name x pos) (tC (.int n)) := by
  obtain ⟨t, e⟩ := h
  exact pe_glob hg e ⟨t, rfl⟩ hd
theorem pgs {X : Cx} {x z : Str} {pos : Pos} (h : ∃ t, X.mg x = some (.str z t)) (hg : Gl X x := by rfl) (hd : (x == ("__debug__" : Str)) = false := by decide) : PE X (.Name x pos) (tC (.str z)) := by
  obtain ⟨t, e⟩ := h
  exact pe_glob hg e ⟨t, rfl⟩ hd
end Ts
/-! TsRules: rules of values that the layer lacks: isinstance and repr of data, least and greatest of tuples, enumerate of a tuple, slices of whole tuples, (x,) * n, set(tuple). -/
namespace Ts
open PySem PySem.Spec PyProof.Rows L2

/-! ### least and greatest -/
def lmin : List Int → Int
  | [] => 0
  | [x] => x
  | x :: y :: r => if x ≤ lmin (y :: r) then x else lmin (y :: r)
def lmax : List Int → Int
  | [] => 0
  | [x] => x
  | x :: y :: r => if lmax (y :: r) ≤ x then x else lmax (y :: r)
theorem lmin_mem : ∀ {xs : List Int}, xs ≠ [] → lmin xs ∈ xs
  | [], h => absurd rfl h
  | [x], _ => List.mem_singleton.mpr rfl
  | x :: y :: r, _ => by
    have ih := lmin_mem (xs := y :: r) (by simp)
    unfold lmin
    split
    · exact List.mem_cons_self
    · exact List.mem_cons_of_mem _ ih
theorem lmin_le : ∀ {xs : List Int} {a : Int}, a ∈ xs → lmin xs ≤ a
  | [], _, h => by cases h
  | [x], a, h => by
    rw [List.mem_singleton.mp h]
    exact Int.le_refl _
  | x :: y :: r, a, h => by
    unfold lmin
    rcases List.mem_cons.mp h with e | e
    · subst e
      split <;> omega
    · have := lmin_le (xs := y :: r) e
      split <;> omega
theorem lmin_unique {xs : List Int} {m : Int} (h1 : m ∈ xs) (h2 : ∀ a, a ∈ xs → m ≤ a) : m = lmin xs := by
  have hne : xs ≠ [] := fun e => by
    rw [e] at h1
    cases h1
  have a1 := h2 _ (lmin_mem hne)
  have a2 := lmin_le h1
  omega
theorem lmax_mem : ∀ {xs : List Int}, xs ≠ [] → lmax xs ∈ xs
  | [], h => absurd rfl h
  | [x], _ => List.mem_singleton.mpr rfl
  | x :: y :: r, _ => by
    have ih := lmax_mem (xs := y :: r) (by simp)
    unfold lmax
    split
    · exact List.mem_cons_self
    · exact List.mem_cons_of_mem _ ih
theorem le_lmax : ∀ {xs : List Int} {a : Int}, a ∈ xs → a ≤ lmax xs
  | [], _, h => by cases h
  | [x], a, h => by
    rw [List.mem_singleton.mp h]
    exact Int.le_refl _
  | x :: y :: r, a, h => by
    unfold lmax
    rcases List.mem_cons.mp h with e | e
    · subst e
      split <;> omega
    · have := le_lmax (xs := y :: r) e
      split <;> omega
theorem lmax_unique {xs : List Int} {m : Int} (h1 : m ∈ xs) (h2 : ∀ a, a ∈ xs → a ≤ m) : m = lmax xs := by
  have hne : xs ≠ [] := fun e => by
    rw [e] at h1
    cases h1
  have a1 := h2 _ (lmax_mem hne)
  have a2 := le_lmax h1
  omega

section
variable {prog : Program} {w : World} {A : Around} {E : Value → Shared → Prop} {s : Shared} {l : Addr} {its : List Value} {ns : List Int} {Q : Value → Shared → Prop}
/-- iter(t): its one new cell -/
theorem iter_tupN {items : Array Value} {R : Value → Shared → Prop} (ht : s.heap.IsTuple l items)
    (h : (s.heap.push { cls := .type "tuple_iterator", data := .fields #[.ref l, .int 0 0] }).IsTupleIter s.heap.objs.size l 0 → (s.heap.push { cls := .type "tuple_iterator", data := .fields #[.ref l, .int 0 0] }).IsTuple l items →
      (∀ b ∈ [s.heap.objs.size, l], b < (s.heap.push { cls := .type "tuple_iterator", data := .fields #[.ref l, .int 0 0] }).objs.size) → l ≠ s.heap.objs.size →
      R (.ref s.heap.objs.size) { s with heap := s.heap.push { cls := .type "tuple_iterator", data := .fields #[.ref l, .int 0 0] } }) : wpAny (model prog w) A (pyIter (.ref l)) R E s := by
  have hlt : l < s.heap.objs.size := by
    obtain ⟨_, e, _⟩ := ht
    exact Heap.lt_size e
  refine wpAny_pyIter_tuple ht (h ⟨_, Heap.get?_push_size _ rfl, rfl, rfl⟩ (ht.push _) (fun b hb => ?_) (Nat.ne_of_lt hlt))
  have hz : (s.heap.push { cls := .type "tuple_iterator", data := .fields #[.ref l, .int 0 0] }).objs.size = s.heap.objs.size + 1 := Heap.size_push ..
  rw [hz]
  have e : b = s.heap.objs.size ∨ b = l := by simpa using hb
  rcases e with e | e
  · rw [e]
    exact Nat.lt_succ_self _
  · rw [e]
    exact Nat.lt_succ_of_lt hlt
theorem keptB {h' : Heap} {o : Obj} (hk : ∀ b u, b ∉ [s.heap.objs.size] → (s.heap.push o).get? b = some u → h'.get? b = some u) : ∀ b u, s.heap.get? b = some u → h'.get? b = some u := by
  intro b u e
  refine hk b u (fun hm => ?_) (Heap.get?_push_of_some _ e)
  rw [List.mem_singleton] at hm
  rw [hm] at e
  exact Nat.lt_irrefl _ (Heap.lt_size e)
theorem min_tup (hh : A.handled = none) (ht : s.heap.IsTuple l its.toArray) (hi : IntsAre its ns) (hne : ns ≠ [])
    (h : ∀ h' tk t', (∀ b o, s.heap.get? b = some o → h'.get? b = some o) → Q (.int (lmin ns) t') { s with heap := h', toks := tk }) : wpAny (model prog w) A (call (.builtin "min") [.ref l]) Q E s := by
  obtain ⟨xs, e⟩ := hi.allInts.items
  have hn : numsOf (intItems xs).toList = ns := by rw [← e]; exact hi.numsOf
  rw [nums_intItems] at hn
  subst hn
  rw [e] at ht
  have hsz : 0 < xs.size := by
    apply Nat.pos_of_ne_zero
    intro z
    apply hne
    apply List.eq_nil_of_length_eq_zero
    simpa using z
  refine call_min_walk (iter_tupN ht fun h1 h2 h3 h4 => ?_)
  refine ⟨_, _, _, _, _, _, _, rfl, Walks.tuple (A := A.in1) hh _ l h4 (intItems xs), ⟨h1, h2⟩, h3, by simpa [intItems] using hsz, CmpOf.ints_lt (numAt xs) (fun _ _ => intItems_at), fun v h' tk hP hk => ?_⟩
  have hP' : (intItems xs)[argBest (fun i j => decide (numAt xs i < numAt xs j)) (xs.size - 1)]? = some v := by simpa [intItems] using hP
  obtain ⟨t, rfl⟩ := intItems_at hP'
  obtain ⟨b1, b2⟩ := argBest_lt (numAt xs) (xs.size - 1)
  have em : numAt xs (argBest (fun i j => decide (numAt xs i < numAt xs j)) (xs.size - 1)) = lmin (xs.toList.map (·.1)) := by
    refine lmin_unique ?_ fun a ha => ?_
    · rw [numAt_eq]
      exact PySem.getD_mem (by rw [List.length_map, Array.length_toList]; omega)
    · obtain ⟨j, hj, rfl⟩ := mem_getD ha
      rw [List.length_map, Array.length_toList] at hj
      rw [← numAt_eq xs j]
      exact b2 j (by omega)
  rw [em]
  exact h h' tk t (keptB hk)
theorem max_tup (hh : A.handled = none) (ht : s.heap.IsTuple l its.toArray) (hi : IntsAre its ns) (hne : ns ≠ [])
    (h : ∀ h' tk t', (∀ b o, s.heap.get? b = some o → h'.get? b = some o) → Q (.int (lmax ns) t') { s with heap := h', toks := tk }) : wpAny (model prog w) A (call (.builtin "max") [.ref l]) Q E s := by
  obtain ⟨xs, e⟩ := hi.allInts.items
  have hn : numsOf (intItems xs).toList = ns := by rw [← e]; exact hi.numsOf
  rw [nums_intItems] at hn
  subst hn
  rw [e] at ht
  have hsz : 0 < xs.size := by
    apply Nat.pos_of_ne_zero
    intro z
    apply hne
    apply List.eq_nil_of_length_eq_zero
    simpa using z
  refine call_max_walk (iter_tupN ht fun h1 h2 h3 h4 => ?_)
  refine ⟨_, _, _, _, _, _, _, rfl, Walks.tuple (A := A.in1) hh _ l h4 (intItems xs), ⟨h1, h2⟩, h3, by simpa [intItems] using hsz, CmpOf.ints_gt (numAt xs) (fun _ _ => intItems_at), fun v h' tk hP hk => ?_⟩
  have hP' : (intItems xs)[argBest (fun i j => decide (numAt xs i > numAt xs j)) (xs.size - 1)]? = some v := by simpa [intItems] using hP
  obtain ⟨t, rfl⟩ := intItems_at hP'
  obtain ⟨b1, b2⟩ := argBest_gt (numAt xs) (xs.size - 1)
  have em : numAt xs (argBest (fun i j => decide (numAt xs i > numAt xs j)) (xs.size - 1)) = lmax (xs.toList.map (·.1)) := by
    refine lmax_unique ?_ fun a ha => ?_
    · rw [numAt_eq]
      exact PySem.getD_mem (by rw [List.length_map, Array.length_toList]; omega)
    · obtain ⟨j, hj, rfl⟩ := mem_getD ha
      rw [List.length_map, Array.length_toList] at hj
      rw [← numAt_eq xs j]
      exact b2 j (by omega)
  rw [em]
  exact h h' tk t (keptB hk)
end
section
variable {X : Cx}
/-- min, max of a list or a tuple of ints -/
def rMinA (K : PySem.W.Frag) : List V → Hp → VK → Prop := fun vs H Q => ∃ (a : Addr) (ns : List Int), vs = [V.ref a] ∧ (SqL K H a (ns.map V.int) ∨ SqT K H a (ns.map V.int)) ∧ ns ≠ [] ∧ Q (.int (lmin ns)) H
def rMaxA (K : PySem.W.Frag) : List V → Hp → VK → Prop := fun vs H Q => ∃ (a : Addr) (ns : List Int), vs = [V.ref a] ∧ (SqL K H a (ns.map V.int) ∨ SqT K H a (ns.map V.int)) ∧ ns ≠ [] ∧ Q (.int (lmax ns)) H
theorem pos_of_ne {α : Type} {xs : List α} (h : xs ≠ []) : 0 < xs.length := List.length_pos_iff.mpr h
theorem cr_minA (hc : X.calm = true) : CallR X (.builtin "min") (rMinA X.K) := by
  intro pins s σ H vs us Q I r h
  obtain ⟨a, ns, rfl, hs, hne, q⟩ := h
  rw [Vals.ref1 r]
  rcases hs with hs | hs
  · obtain ⟨its, rv, hl, _⟩ := I.list hs
    exact min_raw (I.ok.hd hc) hl.isList rv.ints (pos_of_ne hne) fun h' tk m t' hk h1 h2 => ⟨.int m, H, I.kept hk, ⟨_, rfl⟩, by rw [lmin_unique h1 h2]; exact q⟩
  · obtain ⟨its, rv, ht, _⟩ := I.tuple hs
    exact min_tup (I.ok.hd hc) (show s.heap.IsTuple a its.toArray from ht) rv.ints hne fun h' tk t' hk => ⟨.int _, H, I.kept hk, ⟨_, rfl⟩, q⟩
theorem cr_maxA (hc : X.calm = true) : CallR X (.builtin "max") (rMaxA X.K) := by
  intro pins s σ H vs us Q I r h
  obtain ⟨a, ns, rfl, hs, hne, q⟩ := h
  rw [Vals.ref1 r]
  rcases hs with hs | hs
  · obtain ⟨its, rv, hl, _⟩ := I.list hs
    exact max_raw (I.ok.hd hc) hl.isList rv.ints (pos_of_ne hne) fun h' tk m t' hk h1 h2 => ⟨.int m, H, I.kept hk, ⟨_, rfl⟩, by rw [lmax_unique h1 h2]; exact q⟩
  · obtain ⟨its, rv, ht, _⟩ := I.tuple hs
    exact max_tup (I.ok.hd hc) (show s.heap.IsTuple a its.toArray from ht) rv.ints hne fun h' tk t' hk => ⟨.int _, H, I.kept hk, ⟨_, rfl⟩, q⟩

/-! ### repr of data -/
def rRepD (K : PySem.W.Frag) : List V → Hp → VK → Prop := fun vs H Q => ∃ (x : V) (d : PyData), vs = [x] ∧ Dp K H x d ∧ d.showable = true ∧ d.shown.length ≤ sizeLine ∧ d.depth ≤ 50 ∧ Q (.str d.shown) H
theorem dp_nodict {K : PySem.W.Frag} {H : Hp} : ∀ (d : PyData) (v : V), Dp K H v d → d.hasDict = false := by
  intro d
  refine PyData.rec (motive_1 := fun d => ∀ v : V, Dp K H v d → d.hasDict = false) (motive_2 := fun ds => ∀ vs : List V, DpAll K H vs ds → PyData.hasDictAll ds = false) (motive_3 := fun _ => True) (motive_4 := fun _ => True)
    ?_ ?_ ?_ ?_ ?_ ?_ ?_ ?_ ?_ ?_ ?_ ?_ d
  · intro v _; rfl
  · intro b v _; rfl
  · intro i v _; rfl
  · intro x v _; rfl
  · intro xs ih v h
    cases h with
    | lst _ ha => exact ih _ ha
  · intro xs ih v h
    cases h with
    | tup _ ha => exact ih _ ha
  · intro kvs _ v h
    cases h
  · intro vs _; rfl
  · intro d ds h1 h2 vs h
    cases h with
    | cons a b =>
      show (d.hasDict || PyData.hasDictAll ds) = false
      rw [h1 _ a, h2 _ b] <;> rfl
  · trivial
  · intros; trivial
  · intros; trivial
theorem call_reprD (hg : X.A.guards = some []) (hu : X.A.units + 64 < cLine) : CallR X (.builtin "repr") (rRepD X.K) := by
  intro pins s σ H xs us Q I r h
  obtain ⟨x, d, rfl, hd, hs, hz, hdep, q⟩ := h
  have nd := dp_nodict d x hd
  obtain ⟨u, rfl, ru⟩ := vals1 r
  obtain ⟨as, rd⟩ := Dp.reads I d x u hd ru
  have fin : ∀ (h' : Heap) (t : Tok) (tk : Nat), (∀ b o, s.heap.get? b = some o → h'.get? b = some o) → EP X pins σ Q (.str d.shown t) { s with heap := h', toks := tk } :=
    fun h' t tk hk => ⟨.str d.shown, H, I.kept hk, ⟨_, rfl⟩, q⟩
  cases rd with
  | none => exact PySem.P.repr_of_none (fin s.heap _ _ fun _ _ e => e)
  | bool b => exact PySem.P.repr_of_bool (by
      have := fin s.heap s.toks (s.toks + 1) fun _ _ e => e
      cases b <;> exact this)
  | int i t => exact PySem.P.repr_of_int (by simpa [PyData.showable] using hs) (fin s.heap _ _ fun _ _ e => e)
  | str z t => exact PySem.P.repr_of_str (fin s.heap _ _ fun _ _ e => e) hz
  | list h1 h2 h3 h4 => exact repr_of_reads' (Reads.list h1 h2 h3 h4) hs (PyData.noDict_hsm nd) hg (by omega) (fun _ _ e => e) (fun h' t tk hk => fin h' t tk hk) hz
  | tuple h1 h2 h3 h4 => exact repr_of_reads' (Reads.tuple h1 h2 h3 h4) hs (PyData.noDict_hsm nd) hg (by omega) (fun _ _ e => e) (fun h' t tk hk => fin h' t tk hk) hz
  | dict _ _ _ _ _ => cases nd
end
end Ts
namespace Ts
open PySem PySem.Spec PyProof.Rows L2
/-! ### isinstance of data, one built-in class -/
def kindD : PyData → String
  | .none => "NoneType"
  | .bool _ => "bool"
  | .int _ => "int"
  | .str _ => "str"
  | .list _ => "list"
  | .tuple _ => "tuple"
  | .dict _ => "dict"
def isaK (T k : String) : Bool := k == T || (T == "int" && k == "bool")
def isaD (T : String) (d : PyData) : Bool := isaK T (kindD d)
def kinds7 : List String := ["NoneType", "bool", "int", "str", "list", "tuple", "dict"]
theorem kindD_mem (d : PyData) : kindD d ∈ kinds7 := by cases d <;> simp [kindD, kinds7]
theorem dp_ty {K : PySem.W.Frag} {H : Hp} {x : V} {d : PyData} (h : Dp K H x d) : TyX K H x (.type (kindD d)) := by
  cases h with
  | non => exact .base .non
  | bl b => exact .base (.bl b)
  | int i => exact .base (.int i)
  | str z => exact .base (.str z)
  | lst hs _ =>
    rcases hs with (h | ⟨o, h⟩) | ⟨o, its, n, hk, hc, _⟩
    · exact .base (.lst h)
    · exact .base (.frz h)
    · exact .kList hk hc
  | tup hs _ =>
    rcases hs with (h | ⟨o, h⟩) | ⟨o, its, n, hk, hc, _⟩
    · exact .base (.tup h)
    · exact .fTuple h
    · exact .kTuple hk hc
def rIsaD (K : PySem.W.Frag) (T : String) : List V → Hp → VK → Prop := fun xs H Q => ∃ (x : V) (d : PyData), xs = [x, .ty T] ∧ Dp K H x d ∧ Q (.bl (isaD T d)) H
theorem isa_of {X : Cx} {T : String} (h : ∀ k ∈ kinds7, kitB k T = some (isaK T k)) : CallR X (.builtin "isinstance") (rIsaD X.K T) := by
  intro pins s σ H xs us Q I r hq
  obtain ⟨x, d, rfl, hd, q⟩ := hq
  exact call_isi pins s σ H _ us Q I r ⟨x, .ty T, _, _, _, rfl, .ty T, dp_ty hd, kit_ty (h _ (kindD_mem d)), q⟩
theorem isa_int {X : Cx} : CallR X (.builtin "isinstance") (rIsaD X.K "int") := isa_of (by decide +kernel)
theorem isa_bool {X : Cx} : CallR X (.builtin "isinstance") (rIsaD X.K "bool") := isa_of (by decide +kernel)
theorem isa_tuple {X : Cx} : CallR X (.builtin "isinstance") (rIsaD X.K "tuple") := isa_of (by decide +kernel)
theorem isa_str {X : Cx} : CallR X (.builtin "isinstance") (rIsaD X.K "str") := isa_of (by decide +kernel)
theorem isa_list {X : Cx} : CallR X (.builtin "isinstance") (rIsaD X.K "list") := isa_of (by decide +kernel)
theorem isa_dict {X : Cx} : CallR X (.builtin "isinstance") (rIsaD X.K "dict") := isa_of (by decide +kernel)
/-- isinstance(e, T) -/
def tIsa (K : PySem.W.Frag) (T : String) (te : TE) : TE := fun σ H Q => te σ H fun x H1 => ∃ d, Dp K H1 x d ∧ Q (.bl (isaD T d)) H1
theorem pe_isa {X : Cx} {T : String} {y : Str} {e : Expr} {te : TE} {p p2 pos : Pos} (hc : CallR X (.builtin "isinstance") (rIsaD X.K T)) (hm : X.mg "isinstance" = none) (hy : X.mg y = none) (hv : bootBuiltins y = some (.type T)) (he : PE X e te)
    (hg : Gl X "isinstance" := by rfl) (hgy : Gl X y := by rfl) (hn : y ≠ "__name__" := by decide) (hd : (y == ("__debug__" : Str)) = false := by decide)
    (h1 : starEach [e, .Name y p2] X.env = (false, eval e X.env) :: starEach [.Name y p2] X.env := by rfl) (h2 : starEach [.Name y p2] X.env = [(false, eval (.Name y p2) X.env)] := by rfl)
    (h3 : (backTo pos (starEach [.Name y p2] X.env)).any (·.1) = false := by rfl) :
    PE X (.Call (.Name "isinstance" p) [e, .Name y p2] [] pos) (tIsa X.K T te) := by
  have a := pe_callB (pos := pos) (p := p) hc hg hm (by decide +kernel) (pa_cons he (pa_cons (pe_bltn (v := .ty T) (pos := p2) hgy hy hv rfl hn hd) pa_nil h2) h1) (by decide) (by decide) h1 h3
  constructor
  intro pins s σ H Q I h
  refine a.run pins s σ H Q I ?_
  show te σ H fun x H1 => rIsaD X.K T (x :: [V.ty T]) H1 Q
  have mono : (te σ H fun x H1 => ∃ d, Dp X.K H1 x d ∧ Q (.bl (isaD T d)) H1) = (te σ H fun x H1 => rIsaD X.K T (x :: [V.ty T]) H1 Q) := by
    congr 1
    funext x H1
    apply propext
    constructor
    · rintro ⟨d, hd, q⟩
      exact ⟨x, d, rfl, hd, q⟩
    · rintro ⟨x', d, ex, hd, q⟩
      injection ex with e1 _
      subst e1
      exact ⟨d, hd, q⟩
  rw [← mono]
  exact h

/-! ### (x, ..) * n -/
theorem tuple_mulOne (l : Addr) (items : Array Value) (n : Nat) (dd : Option Addr) (sl : Array (Option Value)) (u : Tok) (hz : items.isEmpty = false) :
    Meets (Builtin.«tuple.__mul__» ⟨[.ref l, .int 1 u], []⟩) (fun _ R s => s.heap.get? l = some { cls := .type "tuple", dict := dd, data := .seq items n, slots := sl } ∧ R (.ok (.ret (Value.ref l))) s) :=
  .of_wp fun prog w A R s h => by
    obtain ⟨hp, g, d, tk, os⟩ := s
    obtain ⟨hl, h⟩ := h
    have f1 := AutoSeq1.idx_int
    have c0 : (decide ((1 : Int) < -(2 ^ 63)) || decide ((1 : Int) ≥ 2 ^ 63)) = false := by decide
    have c1 : (items.isEmpty || (1 : Int) == 1) = true := by rw [hz]; rfl
    wp_walk using AutoSeq1.wpAny_loadPart' hl
    repeat (first
      | (refine wpAny_ite_false (decide_eq_false (by rw [c0]; exact Bool.false_ne_true)) ?_; wp_walk using AutoSeq1.wpAny_loadPart' hl)
      | (refine wpAny_ite_true (decide_eq_true c1) ?_; wp_walk using AutoSeq1.wpAny_loadPart' hl))
    exact ⟨_, rfl, h⟩
def rTupMul (K : PySem.W.Frag) : R2 := fun x y H Q => ∃ l k xs, x = .ref l ∧ y = .int k ∧ SqT K H l xs ∧ xs ≠ [] ∧ 1 ≤ k ∧ k ≤ 1000 ∧ xs.length ≤ 1000 ∧ (k = 1 → Q (.ref l) H) ∧ ∀ p, H p = none → Q (.ref p) (upd H p (.tup (List.replicate k.toNat xs).flatten))
end Ts
namespace Ts
open PySem PySem.Spec PyProof.Rows L2
section
variable {X : Cx}
theorem op_tupMul : OpR X (binaryOp .Mult) (rTupMul X.K) := by
  intro pins s σ H x y v u Q I rx ry h
  obtain ⟨l, k, xs, rfl, rfl, hT, hne, h1, h2, hz, q1, q⟩ := h
  by_cases hk : k = 1
  · subst hk
    have q2 := q1 rfl
    cases rx
    obtain ⟨t, rfl⟩ := ry
    obtain ⟨its, r, ⟨⟨cls, dd, data, sl⟩, ho, hc, n, hd⟩, hs⟩ := I.tuple hT
    simp only at hc hd
    subst hc hd
    have hi : its.toArray.isEmpty = false := by
      cases its with
      | nil =>
        cases r
        exact absurd rfl hne
      | cons a b => rfl
    exact wpAny_binaryOp_repeat_ref (T := "tuple") (U := "int") (by decide) ⟨_, ho, rfl⟩ (fun s' => typeIs_int s' 1 t) noFill_tuple_mul F.fills_int_mul F.slot_int_rmul repeat_tuple F.slot_int_index.lookup
      (call_meets F.slot_int_rmul (typeIs_int s 1 t) F.entry_int_rmul (F.args_int_rmul_2 _ _) (int_rmul_tuple 1 t l its.toArray n dd sl)
        ⟨ho, rfl, ⟨_, ho, rfl⟩, call_meets F.slot_tuple_mul ⟨_, ho, rfl⟩ F.entry_tuple_mul (F.args_tuple_mul_2 _ _) (tuple_mulOne l its.toArray n dd sl t hi) ⟨ho, ⟨.ref l, H, I, rfl, q2⟩⟩⟩)
  · exact op_repT pins s σ H _ _ v u Q I rx ry ⟨l, k, xs, rfl, rfl, hT, hne, by omega, h2, hz, q⟩

/-! ### t[lo:hi], the whole of it too -/
open HT in
theorem getItem_tuple_all {prog : Program} {w : World} {A : Around} {E : Value → Shared → Prop} {s : Shared} {t sl : Addr} {items : Array Value} {vl vu : Value} {lo hi : Option Int} {Q : Value → Shared → Prop} (ht : IsTup s.heap t items) (hs : s.heap.IsSliceOf sl vl vu .none) (pl : IsPart vl lo) (pu : IsPart vu hi)
    (hw : sIx items.size 0 lo = 0 ∧ sIx items.size items.size hi = items.size) (h : Q (.ref t) s) : wpAny (model prog w) A (getItem (.ref t) (.ref sl)) Q E s := by
  have hTs : s.TypeIs (.ref sl) "slice" := by
    obtain ⟨o, ho, hc, _⟩ := hs
    exact ⟨o, ho, hc⟩
  have whole : ((((sIx items.size 0 lo : Nat) : Int) == 0 && (1 : Int) == 1 && (sIx items.size items.size hi - sIx items.size 0 lo) == items.size) = true) := by
    rw [hw.1, hw.2]
    simp
  unfold getItem
  try with_reducible refine wpAny_holding ?_
  first | refine wpAny_bind (wpAny_pure ?_) | skip
  refine wpAny_bind (wpAny_sequenceKey ht.typeIs (by decide) (wpAny_bind (wpAny_callSpecial?_slot (name := Str.ofString "__getitem__") ht.typeIs PyProof.Rows.slot_tuple_getitem
    (wpAny_call_entry PyProof.Rows.slot_tuple_getitem ht.typeIs entry_tuple_getitem ?_ (args_tuple_getitem _ _)))))
  show wpAny _ _ (Builtin.Tuple.tupleItemsOf (.ref t) >>= _) _ _ s
  refine wpAny_bind (tupleItemsOf_ ht (wpAny_bind (wpAny_typeOf hTs ?_)))
  rw [if_pos (by decide)]
  refine wpAny_bind (sliceApplied_gen hs pl pu ?_)
  show wpAny _ _ (if (((sIx items.size 0 lo : Nat) : Int) == 0 && (1 : Int) == 1 && (sIx items.size items.size hi - sIx items.size 0 lo) == items.size) = true then _ else _) _ _ s
  rw [if_pos whole]
  obtain ⟨⟨oc, od, dt, osl⟩, ho, hc, n, hd⟩ := ht
  simp only at hc hd
  subst hc hd
  have hT : s.TypeIs (.ref t) "tuple" := ⟨_, ho, rfl⟩
  unfold Builtin.Tuple.tupleIsExact
  refine wpAny_bind ?_
  refine wpAny_bind (wpAny_typeOf hT ?_)
  refine wpAny_pure ?_
  rw [if_pos (by decide)]
  first
    | exact wpAny_bind (wpAny_rule (wpAny_pure ⟨_, rfl, wpAny_pure h⟩))
    | exact wpAny_bind (wpAny_rule (wpAny_bind (wpAny_pure (wpAny_pure ⟨_, rfl, wpAny_pure h⟩))))
    | exact wpAny_bind (wpAny_bind (wpAny_rule (wpAny_pure (wpAny_pure ⟨_, rfl, wpAny_pure h⟩))))
    | exact wpAny_bind (wpAny_bind (wpAny_rule (wpAny_pure ⟨_, rfl, wpAny_pure h⟩)))
    | exact wpAny_rule (wpAny_bind (wpAny_pure ⟨_, rfl, wpAny_pure h⟩))
def rSlTA (K : PySem.W.Frag) : V → Option Int → Option Int → Hp → VK → Prop := fun x lo hi H Q => ∃ a xs, x = .ref a ∧ SqT K H a xs ∧ (cutV xs lo hi = xs → Q (.ref a) H) ∧ ∀ p, H p = none → Q (.ref p) (upd H p (.tup (cutV xs lo hi)))
theorem sl_tupA : SlR X (rSlTA X.K) := by
  intro pins s σ H x v vl vu lo hi sl Q I rx hs pl pu h
  obtain ⟨a, xs, rfl, hx, q1, q⟩ := h
  by_cases hw : HT.sIx xs.length 0 lo = 0 ∧ HT.sIx xs.length xs.length hi = xs.length
  · cases rx
    obtain ⟨its, r, ht, hz⟩ := I.tuple hx
    have hlen : its.toArray.size = xs.length := by rw [List.size_toArray]; exact r.length.symm
    refine ⟨"tuple", _, PyProof.Rows.slot_tuple_getitem.lookup, ht.typeIs, ?_⟩
    refine getItem_tuple_all ht hs pl pu (by rw [hlen]; exact hw) ⟨.ref a, H, I, rfl, q1 ?_⟩
    unfold cutV
    rw [hw.1, hw.2]
    simp
  · exact sl_tup pins s σ H _ v vl vu lo hi sl Q I rx hs pl pu ⟨a, xs, rfl, hx, hw, q⟩

/-! ### set(t), t a tuple of ints -/
def rSetT (K : PySem.W.Frag) (w : World) : List V → Hp → VK → Prop := fun xs H Q => ∃ (l : Addr) (ns : List Int), xs = [V.ref l] ∧ SqT K H l (ns.map V.int) ∧ ns.length ≤ 1000 ∧
  ∀ p c, H p = none → c ≤ ns.length → Q (.ref p) (upd H p (SetO w p (fun j => decide (j ∈ ns)) c))
theorem cr_setT (hc : X.calm = true) : CallR X (.type "set") (rSetT X.K X.w) := by
  intro pins s σ H xs us Q I r h
  obtain ⟨l, ns, rfl, hq, hl, q⟩ := h
  rw [Vals.ref1 r]
  obtain ⟨its, rv, pt, hz⟩ := I.tuple hq
  refine call_set_tupI ns (I.ok.hd hc) (show s.heap.IsTuple l its.toArray from pt) (ints_of_vals rv) (by unfold scanBound; omega) fun h' tk c R1 hcn k => ?_
  have hn : H s.heap.objs.size = none := I.hok.fresh (Nat.le_refl _)
  exact ⟨.ref s.heap.objs.size, _, I.laid (t' := tk) (o := SetO X.w s.heap.objs.size (fun j => decide (j ∈ ns)) c) k (Nat.le_refl _) (setO_new R1), rfl, q _ c hn hcn⟩
end

/-! ### enumerate(t), t a tuple -/
set_option maxHeartbeats 1000000 in
theorem meets_enum1 {v : Value} {o : Obj} {H : Heap → Prop} (B : Begins v o H) :
    Meets (Builtin.«enumerate.__new__» ⟨[.type "enumerate", v], []⟩) (fun _ R s => H s.heap ∧
      R (.ok (.ret (.ref (s.heap.push o).objs.size))) { s with heap := (s.heap.push o).push { cls := .type "enumerate", data := .fields #[.none, .bool false, .ref s.heap.objs.size, rawInt 0, .none, .none] } }) :=
  .of_wp fun prog w A R s h => by
    obtain ⟨hp, g, d, tk, os⟩ := s
    obtain ⟨h1, h⟩ := h
    have hsub := sub_enumerate
    have q1 : ∀ {A' : Around} {E : Value → Shared → Prop} {Q : Value → Shared → Prop}, Q (.ref hp.objs.size) ⟨hp.push o, g, d, tk, os⟩ → wpAny (model prog w) A' (pyIter v) Q E ⟨hp, g, d, tk, os⟩ := by
      intro A' E Q q
      exact B.iter prog w _ _ ⟨hp, g, d, tk, os⟩ _ h1 q
    wp_walk using q1
    refine wpAny_stack_any fun st => wpAny_pure ?_
    split
    · rename_i c _ _ _ _ _
      cases (c == Value.type "enumerate") <;> (wp_walk using q1; exact ⟨_, rfl, h⟩)
    · wp_walk using q1
      exact ⟨_, rfl, h⟩
theorem enum1_begins {prog : Program} {w : World} {A : Around} {E : Value → Shared → Prop} {s : Shared} {v : Value} {o : Obj} {H : Heap → Prop} {Q : Value → Shared → Prop} (B : Begins v o H) (h1 : H s.heap)
    (h : ∀ h', IsEnum h' (s.heap.objs.size + 1) s.heap.objs.size 0 .none → h'.get? s.heap.objs.size = some o → h'.objs.size = s.heap.objs.size + 2 →
      (∀ b o, s.heap.get? b = some o → h'.get? b = some o) → Q (.ref (s.heap.objs.size + 1)) { s with heap := h' }) :
    wpAny (model prog w) A (call (.type "enumerate") [v]) Q E s := by
  refine callType_new F.called_enumerate (by decide) (F.typeCall_enumerate_1 _) (F.newCall_enumerate_1 _) (fun obj => F.args_object_init_2 obj _) F.entry_enumerate_new (meets_enum1 B) ⟨h1, ?_⟩
  have hz : (s.heap.push o).objs.size = s.heap.objs.size + 1 := Heap.size_push ..
  show _ ∧ _
  rw [hz]
  have he : IsEnum ((s.heap.push o).push { cls := .type "enumerate", data := .fields #[.none, .bool false, .ref s.heap.objs.size, rawInt 0, .none, .none] }) (s.heap.objs.size + 1) s.heap.objs.size 0 .none := by
    have z := Heap.get?_push_size (s.heap.push o) (o := { cls := .type "enumerate", data := .fields #[.none, .bool false, .ref s.heap.objs.size, rawInt 0, .none, .none] }) rfl
    rw [hz] at z
    exact z
  exact ⟨⟨_, he, rfl⟩, h _ he (Heap.get?_push_of_some _ (Heap.get?_push_size _ B.free)) (by rw [Heap.size_push, hz]) fun b o x => Heap.get?_push_of_some _ (Heap.get?_push_of_some _ x)⟩
/-- the tuple at a, each item in a new pair -/
def IteT (K : PySem.W.Frag) (a : Addr) : It :=
  ⟨fun i H => ∃ (xs : List V) (x : V), SqT K H a xs ∧ xs[i]? = some x, fun i H v H' => ∃ T x, v = .ref T ∧ H T = none ∧ H' = upd H T (.tup [.int (i : Nat), x]) ∧ ∀ xs, SqT K H a xs → xs[i]? = some x, fun i H => ∃ xs : List V, SqT K H a xs ∧ xs.length ≤ i⟩
theorem turn_enumT {P : Program} {w : World} {K : PySem.W.Frag} {elts : List Expr} {kk : Nat} {tpos : Pos} (a e it : Addr) (hae : a ≠ it) :
    Turn P w K (.Tuple elts kk tpos) (IteT K a) [e, it] e (fun i h => (∃ old, IsEnum h e it ((i : Nat) : Int) old) ∧ h.IsTupleIter it a i ∧ e ≠ it ∧ a ≠ e) where
  mem := by simp
  obj := fun i h st b hb => by
    obtain ⟨⟨old, he⟩, ⟨o, ho, hc, hd⟩, _⟩ := st
    have e' : b = e ∨ b = it := by simpa using hb
    rcases e' with z | z
    · rw [z]; exact ⟨_, he, fun v q => nomatch q⟩
    · rw [z]; exact ⟨o, ho, fun v q => by rw [hd] at q; cases q⟩
  keep := fun i h h' st k => by
    obtain ⟨⟨old, he⟩, hi, hne, hne2⟩ := st
    exact ⟨⟨old, k e (by simp) _ he⟩, hi.at (fun o q => k it (by simp) o q), hne, hne2⟩
  item := by
    intro X hP hw hK hc i pins s σ H E I hf st hg
    subst hP hw hK
    obtain ⟨⟨old, he⟩, hit, hne, hne2⟩ := st
    obtain ⟨xs, x, hq, hx⟩ := hg
    obtain ⟨its, rv, p, hz⟩ := I.tuple hq
    obtain ⟨u, hu, ru⟩ := rv.get hx
    have hel : e < s.heap.objs.size := Heap.lt_size he
    have hil : it < s.heap.objs.size := by
      obtain ⟨_, q, _⟩ := hit
      exact Heap.lt_size q
    have hlt : i < its.toArray.size := by
      rw [List.size_toArray]
      exact (List.getElem?_eq_some_iff.mp hu).1
    refine wpAny_pyNext_enum_itemD (Draws.tuple (A := X.A.in1) (I.ok.hd hc) it a hae its.toArray) he ⟨hit, show s.heap.IsTuple a its.toArray from p⟩ hlt hne (by simpa using ⟨hne, hne2.symm⟩) fun u' h' tk hP ho st' hT hsz hk => ?_
    have eu : u' = u := by
      have z : its.toArray[i]? = some u' := hP
      rw [List.getElem?_toArray, hu] at z
      exact (Option.some.inj z).symm
    subst eu
    refine ⟨_, rfl, wpAny_letOwnedTupleGo_enum (s := { s with heap := h', toks := tk + 1 }) ho fun h'' he' sb => ?_⟩
    have hT2 : h''.get? s.heap.objs.size = some { cls := .type "tuple", data := .seq #[.int i tk, u'] } := (sb.2 _ (Nat.ne_of_gt hel)).trans hT
    have new : ObjOk X.prog X.w (upd H s.heap.objs.size (.tup [.int (i : Nat), x])) h'' s.heap.objs.size (.tup [.int (i : Nat), x]) :=
      ⟨by show 2 ≤ sizeLine; decide, [.int i tk, u'], .cons ⟨_, rfl⟩ (.cons ru .nil), ⟨_, hT2, rfl, _, rfl⟩⟩
    have I1 : Inv X pins σ (upd H s.heap.objs.size (.tup [.int (i : Nat), x])) { s with heap := h'', toks := tk + 1 } :=
      I.turnedNew (ch := [e, it]) (fun b ob hb q => (sb.2 b (fun z => hb (by simp [z]))).trans (hk b ob (fun z => hb (by simp [z])) (fun z => hb (by simp [z])) q)) hf (Nat.le_refl _) new
    refine ⟨.ref s.heap.objs.size, _, I1, rfl, ⟨_, x, rfl, I.hok.fresh (Nat.le_refl _), rfl, fun ys hy => by rw [I.tuple_inj hy hq]; exact hx⟩, ⟨⟨u', ?_⟩, st'.1.at fun o q => (sb.2 it (Ne.symm hne)).trans q, hne, hne2⟩, fun b hb => ?_⟩
    · have e1 : ((i + 1 : Nat) : Int) = (i : Int) + 1 := by omega
      rw [e1]; exact he'
    · have hb' : b < s.heap.objs.size := by
        have e' : b = e ∨ b = it := by simpa using hb
        rcases e' with z | z
        · rw [z]; exact hel
        · rw [z]; exact hil
      rw [upd_ne (Nat.ne_of_lt hb')]
      exact (hf b hb).1
  done := by
    intro X hP hw hK hc i pins s σ H E I hf st hg
    subst hP hw hK
    obtain ⟨⟨old, he⟩, hit, hne, hne2⟩ := st
    obtain ⟨xs, hq, hx⟩ := hg
    obtain ⟨its, rv, p, hz⟩ := I.tuple hq
    obtain ⟨f0, f1, f2, f3, f4, f5⟩ := hf it (by simp)
    have hl := rv.length
    have hend : its.toArray[i]? = none := by
      rw [List.getElem?_toArray, List.getElem?_eq_none_iff]
      omega
    have hT : s.TypeIs (.ref e) "enumerate" := ⟨_, he, rfl⟩
    have fin : ∀ h', Heap.ExtBut it s.heap h' → ∃ _z : (none : Option Value) = none, Inv X pins σ H { s with heap := h' } := fun h' eb => ⟨rfl, I.turned (t' := s.toks) (fun b o hb q => eb b o hb q) f0 f1 f3 f4 f5⟩
    unfold pyNext
    refine wpAny_bind (wpAny_attempt (wpAny_callSpecial?_slot (name := Str.ofString "__next__") hT F.slot_enumerate_next
      (wpAny_call_entry F.slot_enumerate_next hT F.entry_enumerate_next ?_ (F.args_enumerate_next_1 _))))
    show wpAny _ _ (field (.ref e) 2 >>= _) _ _ _
    refine wpAny_bind (wpAny_field he rfl (x := .ref it) rfl ?_)
    refine wpAny_bind (wpAny_nextOf_tuple_end (I.ok.hd hc) hit (show s.heap.IsTuple a its.toArray from p) hend fun h' x he' hx' => ?_)
    obtain ⟨o, ho, hcx⟩ := hx'
    refine wpAny_bind (wpAny_isInstance (T := "StopIteration") (b := true) ⟨o, ho, hcx⟩ isSubtype_stop ?_)
    refine wpAny_pure ?_
    exact ⟨rfl, (fin h' he').2⟩
  self := fun A i s Q E st h => by
    obtain ⟨⟨_, he⟩, _⟩ := st
    exact wpAny_pyIter_enum he h
def iEnumT (K : PySem.W.Frag) (ta : TA) : TI := fun σ H R => ta σ H fun vs H1 => ∃ a xs, vs = [.ref a] ∧ SqT K H1 a xs ∧ R (IteT K a) H1
theorem pi_enumT {X : Cx} {e : Expr} {ta : TA} {p pos tpos : Pos} {elts : List Expr} {kk : Nat} (hg : Gl X "enumerate") (hm : X.mg "enumerate" = none) (ha : PA X [e] ta) (hs : starEach [e] X.env = [(false, eval e X.env)] := by rfl) :
    PI X (.Tuple elts kk tpos) (.Call (.Name "enumerate" p) [e] [] pos) (iEnumT X.K ta) := by
  refine ⟨fun pins s σ H R I h => ?_⟩
  refine Call_ (ld_blt I hg hm boot_enumerate (PyProof.Rows.callWith_type1 (thn (ha.run pos pins s σ H _ I h) fun us s1 h1 => ?_) hs rfl))
  obtain ⟨vs, H1, I1, r1, a, xs, ex, hq, q⟩ := h1
  subst ex
  rw [Vals.ref1 r1]
  obtain ⟨its, rv, p', hz⟩ := I1.tuple hq
  have pt : s1.heap.IsTuple a its.toArray := p'
  have al : a < s1.heap.objs.size := by
    obtain ⟨_, z, _⟩ := p'
    exact Heap.lt_size z
  refine enum1_begins (begins_tuple a its.toArray) pt fun h' he hit hsz hk => wpAny_pyIter_enum he ?_
  have I2 : Inv X pins σ H1 { s1 with heap := h' } := I1.kept (t' := s1.toks) hk
  refine ⟨s1.heap.objs.size + 1, [s1.heap.objs.size + 1, s1.heap.objs.size], _, _, H1, rfl, I2, turn_enumT a (s1.heap.objs.size + 1) s1.heap.objs.size (Nat.ne_of_lt al), ⟨⟨.none, he⟩, ⟨_, hit, rfl, rfl⟩, Nat.succ_ne_self _, Nat.ne_of_lt (Nat.lt_succ_of_lt al)⟩, fun b hb => ?_, q⟩
  have e' : b = s1.heap.objs.size + 1 ∨ b = s1.heap.objs.size := by simpa using hb
  have hle : s1.heap.objs.size ≤ b := by
    rcases e' with z | z
    · rw [z]; exact Nat.le_add_right _ _
    · rw [z]; exact Nat.le_refl _
  exact I1.fpOk hle (I1.hok.fresh hle)
end Ts
/-! TsLib: what stays of the heap, data that are read, short words. -/
namespace Ts
open PySem PySem.Spec PyProof.Rows L2

/-! ### what stays -/
/-- all that is tracked stays, but what stands at L -/
def Kp (L : List Addr) (H H' : Hp) : Prop := ∀ a o, H a = some o → a ∉ L → H' a = some o
abbrev Ex (H H' : Hp) : Prop := Evl.Ex H H'
theorem Kp.refl {L : List Addr} (H : Hp) : Kp L H H := fun _ _ h _ => h
theorem Kp.trans {L : List Addr} {H H1 H2 : Hp} (a : Kp L H H1) (b : Kp L H1 H2) : Kp L H H2 := fun x o h n => b x o (a x o h n) n
theorem Kp.mono {L L' : List Addr} {H H' : Hp} (a : Kp L H H') (h : ∀ x, x ∈ L → x ∈ L') : Kp L' H H' := fun x o e n => a x o e fun z => n (h x z)
theorem Kp.ex {L : List Addr} {H H' : Hp} (a : Ex H H') : Kp L H H' := fun x o e _ => a x o e
theorem ex_new {H : Hp} {p : Addr} {o : HO} (h : H p = none) : Ex H (upd H p o) := fun a u e => by
  rw [upd_ne (ne_of_none e h)]
  exact e
theorem ex_newT {H H' : Hp} {p : Addr} {o : HO} (k : Ex H H') (h : H' p = none) : Ex H (upd H' p o) := Evl.Ex.trans k (ex_new h)
/-- what H does not know may change behind it -/
theorem ex_chg {H H' : Hp} {p : Addr} {o : HO} (k : Ex H H') (h : H p = none) : Ex H (upd H' p o) := fun a u e => by
  rw [upd_ne (ne_of_none e h)]
  exact k a u e
theorem Kp.new {L : List Addr} {H : Hp} {p : Addr} {o : HO} (h : H p = none) : Kp L H (upd H p o) := Kp.ex (ex_new h)
theorem Kp.set {L : List Addr} {H : Hp} {p : Addr} {o : HO} (h : p ∈ L) : Kp L H (upd H p o) := fun a u e n => by
  rw [upd_ne (fun z => n (by rw [z]; exact h))]
  exact e
theorem Kp.chg {L : List Addr} {H H' : Hp} {p : Addr} {o : HO} (k : Kp L H H') (h : H p = none) : Kp L H (upd H' p o) := fun a u e n => by
  rw [upd_ne (ne_of_none e h)]
  exact k a u e n
theorem Kp.newT {L : List Addr} {H H' : Hp} {p : Addr} {o : HO} (k : Kp L H H') (h : H' p = none) : Kp L H (upd H' p o) := k.trans (Kp.new h)
theorem Kp.setT {L : List Addr} {H H' : Hp} {p : Addr} {o : HO} (k : Kp L H H') (h : p ∈ L) : Kp L H (upd H' p o) := k.trans (Kp.set h)
theorem ex_free {H H' : Hp} {p : Addr} (k : Ex H H') (h : H' p = none) : H p = none := by
  cases e : H p with
  | none => rfl
  | some o =>
    have z := k p o e
    rw [h] at z
    cases z
theorem Kp.free1 {s : Addr} {H H' : Hp} {p : Addr} {o : HO} (k : Kp [s] H H') (hs : H' s = some o) (h : H' p = none) : H p = none := by
  cases e : H p with
  | none => rfl
  | some u =>
    have z := k p u e (by
      intro m
      rw [List.mem_singleton.mp m, hs] at h
      cases h)
    rw [h] at z
    cases z

/-- what is read as a list or a tuple stays so -/
structure Sb (K : PySem.W.Frag) (H H' : Hp) : Prop where
  l : ∀ a xs, SqL K H a xs → SqL K H' a xs
  t : ∀ a xs, SqT K H a xs → SqT K H' a xs
theorem Sb.refl {K : PySem.W.Frag} (H : Hp) : Sb K H H := ⟨fun _ _ h => h, fun _ _ h => h⟩
theorem Sb.trans {K : PySem.W.Frag} {H H1 H2 : Hp} (a : Sb K H H1) (b : Sb K H1 H2) : Sb K H H2 := ⟨fun x o h => b.l x o (a.l x o h), fun x o h => b.t x o (a.t x o h)⟩
def seqO : HO → Bool
  | .lst _ => true
  | .tup _ => true
  | .frz _ _ => true
  | _ => false
theorem Kp.sb {K : PySem.W.Frag} {L : List Addr} {H H' : Hp} (k : Kp L H H') (hL : ∀ a ∈ L, ∀ o, H a = some o → seqO o = false) : Sb K H H' := by
  have st : ∀ a o, H a = some o → seqO o = true → H' a = some o := by
    intro a o e hs
    refine k a o e fun m => ?_
    rw [hL a m o e] at hs
    cases hs
  constructor
  · intro a xs h
    rcases h with (h | ⟨o, h⟩) | h
    · exact .inl (.inl (st _ _ h rfl))
    · exact .inl (.inr ⟨o, st _ _ h rfl⟩)
    · exact .inr h
  · intro a xs h
    rcases h with (h | ⟨o, h⟩) | h
    · exact .inl (.inl (st _ _ h rfl))
    · exact .inl (.inr ⟨o, st _ _ h rfl⟩)
    · exact .inr h
theorem ex_sb {K : PySem.W.Frag} {H H' : Hp} (k : Ex H H') : Sb K H H' := Kp.sb (L := []) (Kp.ex k) fun _ m => by cases m
theorem Kp.sb1 {K : PySem.W.Frag} {s : Addr} {H H' : Hp} {o : HO} (k : Kp [s] H H') (hs : H s = some o) (ho : seqO o = false) : Sb K H H' :=
  Kp.sb k fun a m u e => by
    rw [List.mem_singleton.mp m, hs] at e
    cases e
    exact ho
theorem sb_new {K : PySem.W.Frag} {H : Hp} {p : Addr} {o : HO} (h : H p = none) : Sb K H (upd H p o) := ex_sb (ex_new h)

/-! ### data -/
mutual
theorem dp_sb {K : PySem.W.Frag} {H H' : Hp} (k : Sb K H H') : ∀ {v : V} {d : PyData}, Dp K H v d → Dp K H' v d
  | _, _, .non => .non
  | _, _, .bl b => .bl b
  | _, _, .int i => .int i
  | _, _, .str x => .str x
  | _, _, .lst hs ha => .lst (k.l _ _ hs) (dpa_sb k ha)
  | _, _, .tup hs ha => .tup (k.t _ _ hs) (dpa_sb k ha)
theorem dpa_sb {K : PySem.W.Frag} {H H' : Hp} (k : Sb K H H') : ∀ {vs : List V} {ds : List PyData}, DpAll K H vs ds → DpAll K H' vs ds
  | _, _, .nil => .nil
  | _, _, .cons h t => .cons (dp_sb k h) (dpa_sb k t)
end
theorem dpa_len {K : PySem.W.Frag} {H : Hp} : ∀ {vs : List V} {ds : List PyData}, DpAll K H vs ds → vs.length = ds.length
  | _, _, .nil => rfl
  | _, _, .cons _ t => congrArg Nat.succ (dpa_len t)
theorem dpa_get {K : PySem.W.Frag} {H : Hp} : ∀ {vs : List V} {ds : List PyData} {i : Nat} {v : V}, DpAll K H vs ds → vs[i]? = some v → ∃ d, ds[i]? = some d ∧ Dp K H v d
  | _, _, _, _, .nil, e => by simp at e
  | _, _, 0, _, .cons h _, e => by
    simp at e
    subst e
    exact ⟨_, rfl, h⟩
  | _, _, i + 1, v, .cons _ t, e => by
    obtain ⟨d, h1, h2⟩ := dpa_get (i := i) (v := v) t (by simpa using e)
    exact ⟨d, by simpa using h1, h2⟩
theorem dpa_getD {K : PySem.W.Frag} {H : Hp} : ∀ {vs : List V} {ds : List PyData} {i : Nat} {d : PyData}, DpAll K H vs ds → ds[i]? = some d → ∃ v, vs[i]? = some v ∧ Dp K H v d
  | _, _, _, _, .nil, e => by simp at e
  | _, _, 0, _, .cons h _, e => by
    simp at e
    subst e
    exact ⟨_, rfl, h⟩
  | _, _, i + 1, v, .cons _ t, e => by
    obtain ⟨d, h1, h2⟩ := dpa_getD (i := i) (d := v) t (by simpa using e)
    exact ⟨d, by simpa using h1, h2⟩
theorem dpa_app {K : PySem.W.Frag} {H : Hp} : ∀ {vs us : List V} {ds es : List PyData}, DpAll K H vs ds → DpAll K H us es → DpAll K H (vs ++ us) (ds ++ es)
  | _, _, _, _, .nil, h => h
  | _, _, _, _, .cons a t, h => .cons a (dpa_app t h)
theorem dpa_ints {K : PySem.W.Frag} {H : Hp} : ∀ ns : List Int, DpAll K H (ns.map V.int) (ns.map PyData.int)
  | [] => .nil
  | _ :: r => .cons (.int _) (dpa_ints r)
theorem ints_dpa {K : PySem.W.Frag} {H : Hp} : ∀ {vs : List V} {ns : List Int}, DpAll K H vs (ns.map PyData.int) → vs = ns.map V.int
  | _, [], h => by
    cases h
    rfl
  | _, n :: r, h => by
    cases h with
    | cons a t =>
      cases a
      rw [ints_dpa t]
      rfl
/-- a tuple of ints -/
abbrev dInts (ns : List Int) : PyData := .tuple (ns.map PyData.int)
theorem dp_ints {K : PySem.W.Frag} {H : Hp} {v : V} {ns : List Int} (h : Dp K H v (dInts ns)) : ∃ a, v = .ref a ∧ SqT K H a (ns.map V.int) := by
  cases h with
  | tup hs ha =>
    rw [ints_dpa ha] at hs
    exact ⟨_, rfl, hs⟩
theorem dp_tup {K : PySem.W.Frag} {H : Hp} {v : V} {ds : List PyData} (h : Dp K H v (.tuple ds)) : ∃ a vs, v = .ref a ∧ SqT K H a vs ∧ DpAll K H vs ds := by
  cases h with
  | tup hs ha => exact ⟨_, _, rfl, hs, ha⟩
theorem dp_lst {K : PySem.W.Frag} {H : Hp} {v : V} {ds : List PyData} (h : Dp K H v (.list ds)) : ∃ a vs, v = .ref a ∧ SqL K H a vs ∧ DpAll K H vs ds := by
  cases h with
  | lst hs ha => exact ⟨_, _, rfl, hs, ha⟩
theorem dp_of_ints {K : PySem.W.Frag} {H : Hp} {a : Addr} {ns : List Int} (h : SqT K H a (ns.map V.int)) : Dp K H (.ref a) (dInts ns) := .tup h (dpa_ints ns)

/-! ### short words -/
theorem ifB {c : Bool} {A B : Prop} (h1 : c = true → A) (h2 : c = false → B) : if c = true then A else B := by
  cases c with
  | true => exact h1 rfl
  | false => exact h2 rfl
/-- what an expression evaluates to, the heap as it is -/
theorem v_and {ta tb : TE} {σ : L2.St} {H : Hp} {a b : Bool} (h1 : Val ta σ H (.bl a)) (h2 : a = true → Val tb σ H (.bl b)) : Val (tAndV ta tb) σ H (.bl (a && b)) := by
  intro Q q
  refine h1 _ ⟨a, rfl, ?_⟩
  cases a with
  | true => exact h2 rfl _ q
  | false => exact q
theorem v_or {ta tb : TE} {σ : L2.St} {H : Hp} {a b : Bool} (h1 : Val ta σ H (.bl a)) (h2 : a = false → Val tb σ H (.bl b)) : Val (tOrV ta tb) σ H (.bl (a || b)) := by
  intro Q q
  refine h1 _ ⟨a, rfl, ?_⟩
  cases a with
  | true => exact q
  | false => exact h2 rfl _ q
theorem v_not {ta : TE} {σ : L2.St} {H : Hp} {a : Bool} (h1 : Val ta σ H (.bl a)) : Val (tNotV ta) σ H (.bl (!a)) := fun Q q => h1 _ ⟨a, rfl, q⟩
theorem v_isa {K : PySem.W.Frag} {T : String} {te : TE} {σ : L2.St} {H : Hp} {x : V} {d : PyData} (h : Val te σ H x) (hd : Dp K H x d) : Val (tIsa K T te) σ H (.bl (isaD T d)) := fun Q q => h _ ⟨d, hd, q⟩

/-! ### comprehensions whose turns leave what stood: acc, what is made in so many turns -/
section
variable {K : PySem.W.Frag} {σ : L2.St} {H : Hp} {Q : VK} {tl te : TE} {tt : TT} {j : Nat} {vs : List Nat} {a : Addr} {xs : List V}
/-- one turn -/
def LcTurn (H : Hp) (σ2 : L2.St) (tt : TT) (te : TE) (b : Bool) (v : V) : Prop :=
  (∀ H', Ex H H' → ∀ R : Bool → Hp → Prop, (∀ H2, Ex H' H2 → R b H2) → tt σ2 H' R) ∧ (b = true → ∀ H', Ex H H' → ∀ R : VK, (∀ H2, Ex H' H2 → R v H2) → te σ2 H' R)
def LcAcc (n : Nat) (f : Nat → Bool) (v : Nat → V) (acc : Nat → List V) : Prop := acc 0 = [] ∧ ∀ i, i < n → acc (i + 1) = if f i = true then acc i ++ [v i] else acc i
theorem LcAcc.le {n : Nat} {f : Nat → Bool} {v : Nat → V} {acc : Nat → List V} (h : LcAcc n f v acc) : ∀ i, i ≤ n → (acc i).length ≤ i
  | 0, _ => by
    rw [h.1]
    exact Nat.le_refl _
  | i + 1, hi => by
    rw [h.2 i hi]
    have := LcAcc.le h i (Nat.le_of_succ_le hi)
    split
    · rw [List.length_append, List.length_singleton]
      omega
    · omega
theorem lc_turn {D : Addr} {n i : Nat} {f : Nat → Bool} {v : Nat → V} {acc : Nat → List V} {σ2 : L2.St} {H1 : Hp} (hA : LcAcc n f v acc) (hn : n ≤ 1000000) (hi : i < n) (hD : H D = none) (e : Ex H H1) (h1 : H1 D = some (.lst (acc i))) (t : LcTurn H σ2 tt te (f i) (v i))
    (Pv : Nat → Hp → Prop) (hP : ∀ H2, Ex H H2 → H2 D = some (.lst (acc (i + 1))) → Pv (i + 1) H2) :
    tt σ2 H1 fun b H3 => if b = true then te σ2 H3 fun y H4 => ∃ acc, H4 D = some (.lst acc) ∧ acc.length < sizeLine ∧ Pv (i + 1) (upd H4 D (.lst (acc ++ [y]))) else Pv (i + 1) H3 := by
  refine t.1 H1 e _ fun H2 e2 => ?_
  have eA := hA.2 i hi
  cases hf : f i with
  | false =>
    refine iteF (hP H2 (Evl.Ex.trans e e2) ?_)
    rw [eA, hf, if_neg Bool.false_ne_true]
    exact e2 _ _ h1
  | true =>
    refine iteT (t.2 hf H2 (Evl.Ex.trans e e2) _ fun H3 e3 => ?_)
    have h3 := e3 _ _ (e2 _ _ h1)
    refine ⟨acc i, h3, ?_, hP _ (ex_chg (Evl.Ex.trans e (Evl.Ex.trans e2 e3)) hD) ?_⟩
    · have := hA.le i (Nat.le_of_lt hi)
      rw [sizeLine_eq]
      omega
    · rw [upd_same, eA, hf, if_pos rfl]
theorem lcT (f : Nat → Bool) (v : Nat → V) (acc : Nat → List V) (h : Val tl σ H (.ref a)) (hx : SqT K H a xs) (hn : xs.length ≤ 1000000) (hA : LcAcc xs.length f v acc) (hw : ∀ x, wipe ((wipe σ vs).set j (some x)) vs = wipe σ vs)
    (ht : ∀ i x, xs[i]? = some x → LcTurn H ((wipe σ vs).set j (some x)) tt te (f i) (v i)) (k : ∀ D H', H D = none → Ex H H' → H' D = some (.lst (acc xs.length)) → Q (.ref D) H') :
    tLc (iTup K tl) (gName j) tt te vs σ H Q := by
  refine h _ ⟨a, rfl, ⟨xs, hx⟩, fun D hD => ?_⟩
  refine lc_tup (K := K) (a := a) (xs := xs) (fun i H' => Ex H H' ∧ H' D = some (.lst (acc i))) ⟨ex_new hD, by rw [upd_same, hA.1]⟩ (fun i H' _ p => (ex_sb p.1).t _ _ hx) (fun i x H' e p => ?_) (fun H' p => k D H' hD p.1 p.2)
  have hi : i < xs.length := (List.getElem?_eq_some_iff.mp e).1
  exact ⟨hw x, lc_turn hA hn hi hD p.1 p.2 (ht i x e) (fun i H' => Ex H H' ∧ H' D = some (.lst (acc i))) fun H2 a b => ⟨a, b⟩⟩
theorem lcL (f : Nat → Bool) (v : Nat → V) (acc : Nat → List V) (h : Val tl σ H (.ref a)) (hx : SqL K H a xs) (hn : xs.length ≤ 1000000) (hA : LcAcc xs.length f v acc) (hw : ∀ x, wipe ((wipe σ vs).set j (some x)) vs = wipe σ vs)
    (ht : ∀ i x, xs[i]? = some x → LcTurn H ((wipe σ vs).set j (some x)) tt te (f i) (v i)) (k : ∀ D H', H D = none → Ex H H' → H' D = some (.lst (acc xs.length)) → Q (.ref D) H') :
    tLc (iList K tl) (gName j) tt te vs σ H Q := by
  refine h _ ⟨a, rfl, ⟨xs, hx⟩, fun D hD => ?_⟩
  refine lc_list (K := K) (a := a) (xs := xs) (fun i H' => Ex H H' ∧ H' D = some (.lst (acc i))) ⟨ex_new hD, by rw [upd_same, hA.1]⟩ (fun i H' _ p => (ex_sb p.1).l _ _ hx) (fun i x H' e p => ?_) (fun H' p => k D H' hD p.1 p.2)
  have hi : i < xs.length := (List.getElem?_eq_some_iff.mp e).1
  exact ⟨hw x, lc_turn hA hn hi hD p.1 p.2 (ht i x e) (fun i H' => Ex H H' ∧ H' D = some (.lst (acc i))) fun H2 a b => ⟨a, b⟩⟩
theorem lcR {n : Nat} (f : Nat → Bool) (v : Nat → V) (acc : Nat → List V) (hn : n ≤ 1000000) (h : Val tl σ H (.int (n : Int))) (hA : LcAcc n f v acc) (hw : ∀ x, wipe ((wipe σ vs).set j (some x)) vs = wipe σ vs)
    (ht : ∀ i, i < n → LcTurn H ((wipe σ vs).set j (some (.int (i : Int)))) tt te (f i) (v i)) (k : ∀ D H', H D = none → Ex H H' → H' D = some (.lst (acc n)) → Q (.ref D) H') :
    tLc (iRng1 (tCons tl tNil)) (gName j) tt te vs σ H Q := by
  refine h _ ⟨n, rfl, by omega, by omega, fun D hD => ?_⟩
  rw [Int.toNat_natCast]
  refine lc_range (lo := 0) (n := n) (fun i H' => Ex H H' ∧ H' D = some (.lst (acc i))) ⟨ex_new hD, by rw [upd_same, hA.1]⟩ (fun i H' hi p => ?_) (fun H' p => k D H' hD p.1 p.2)
  rw [Int.zero_add]
  exact ⟨hw _, lc_turn hA hn hi hD p.1 p.2 (ht i hi) (fun i H' => Ex H H' ∧ H' D = some (.lst (acc i))) fun H2 a b => ⟨a, b⟩⟩
/-- no test -/
theorem yes_turn {σ2 : L2.St} {v : V} (h : ∀ H', Ex H H' → ∀ R : VK, (∀ H2, Ex H' H2 → R v H2) → te σ2 H' R) : LcTurn H σ2 tYes te true v :=
  ⟨fun H' _ R q => q H' (Evl.Ex.refl _), fun _ => h⟩
/-- a turn that leaves the heap as it is -/
theorem val_turn {σ2 : L2.St} {v : V} {b : Bool} (h1 : ∀ H', Ex H H' → Ans tt σ2 H' b) (h2 : b = true → ∀ H', Ex H H' → Val te σ2 H' v) : LcTurn H σ2 tt te b v :=
  ⟨fun H' e R q => h1 H' e R (q H' (Evl.Ex.refl _)), fun hb H' e R q => h2 hb H' e R (q H' (Evl.Ex.refl _))⟩
theorem ans_yes {σ2 : L2.St} : Ans tYes σ2 H true := fun _ q => q
/-- the list that a map makes -/
theorem acc_map {α : Type} (zs : List α) (g : α → V) : LcAcc zs.length (fun _ => true) (fun i => (zs[i]?.map g).getD .non) (fun i => (zs.take i).map g) := by
  refine ⟨rfl, fun i hi => ?_⟩
  have e1 : zs.take (i + 1) = zs.take i ++ [zs[i]] := by rw [List.take_succ, List.getElem?_eq_getElem hi, Option.toList_some]
  have e2 : (zs[i]?.map g).getD .non = g zs[i] := by rw [List.getElem?_eq_getElem hi]; rfl
  show (zs.take (i + 1)).map g = if true = true then (zs.take i).map g ++ [(zs[i]?.map g).getD .non] else (zs.take i).map g
  rw [if_pos rfl, e1, e2, List.map_append]
  rfl
theorem acc_filter {α : Type} (zs : List α) (p : α → Bool) (g : α → V) :
    LcAcc zs.length (fun i => (zs[i]?.map p).getD false) (fun i => (zs[i]?.map g).getD .non) (fun i => ((zs.take i).filter p).map g) := by
  refine ⟨rfl, fun i hi => ?_⟩
  have e1 : zs.take (i + 1) = zs.take i ++ [zs[i]] := by rw [List.take_succ, List.getElem?_eq_getElem hi, Option.toList_some]
  have e2 : (zs[i]?.map g).getD .non = g zs[i] := by rw [List.getElem?_eq_getElem hi]; rfl
  have e3 : (zs[i]?.map p).getD false = p zs[i] := by rw [List.getElem?_eq_getElem hi]; rfl
  show ((zs.take (i + 1)).filter p).map g = if (zs[i]?.map p).getD false = true then ((zs.take i).filter p).map g ++ [(zs[i]?.map g).getD .non] else ((zs.take i).filter p).map g
  simp only [e1, e2, e3, List.filter_append, List.map_append]
  cases h : p zs[i] <;> simp [h]
end

/-! ### walks -/
theorem walk_enumT {K : PySem.W.Frag} {a : Addr} {xs : List V} : Walk (IteT K a) xs.length (fun H => SqT K H a xs) (YPair (fun i => some (.int (i : Nat))) (fun i => xs[i]?)) where
  goes := fun i H hi h => ⟨xs, xs[i], h, by simp [hi]⟩
  stops := fun H h => ⟨xs, h, Nat.le_refl _⟩
  yields := fun i H v H' _ h y => by
    obtain ⟨T, x, ev, hT, eH, hx⟩ := y
    exact ⟨T, _, x, ev, hT, eH, rfl, hx xs h⟩
theorem walk_zipT {K : PySem.W.Frag} {a b : Addr} {xs ys : List V} (e : xs.length = ys.length) : Walk (RZ.ItzT K a b) xs.length (fun H => SqT K H a xs ∧ SqT K H b ys) (YPair (fun i => xs[i]?) (fun i => ys[i]?)) where
  goes := fun i H hi h => ⟨xs, ys, xs[i], ys[i], h.1, h.2, by simp [hi], by simp [← e, hi]⟩
  stops := fun H h => ⟨xs, ys, h.1, h.2, .inl (Nat.le_refl _)⟩
  yields := fun i H v H' _ h y => by
    obtain ⟨T, x, z, ev, hT, eH, hx, hz⟩ := y
    exact ⟨T, x, z, ev, hT, eH, hx xs h.1, hz ys h.2⟩
theorem walk_revT {K : PySem.W.Frag} {a : Addr} {xs : List V} : Walk (RT.ItvT K a xs.length) xs.length (fun H => SqT K H a xs) (fun i H x H' => H' = H ∧ xs[xs.length - 1 - i]? = some x) where
  goes := fun i H hi h => ⟨hi, xs, xs[xs.length - 1 - i]'(by omega), h, by simp⟩
  stops := fun H h => Nat.le_refl _
  yields := fun i H x H' _ h y => ⟨y.1, y.2 xs h⟩
/-- over a pair of tuples, a, b the two names -/
theorem lcZ {K : PySem.W.Frag} {σ : L2.St} {H : Hp} {Q : VK} {ta : TA} {te : TE} {tt : TT} {i1 i2 : Nat} {vs : List Nat} {a b : Addr} {xs ys : List V} (f : Nat → Bool) (v : Nat → V) (acc : Nat → List V)
    (h : ∀ R : List V → Hp → Prop, R [.ref a, .ref b] H → ta σ H R) (hx : SqT K H a xs) (hy : SqT K H b ys) (he : xs.length = ys.length) (hn : xs.length ≤ 1000000) (hA : LcAcc xs.length f v acc)
    (hw : ∀ x y, wipe (((wipe σ vs).set i1 (some x)).set i2 (some y)) vs = wipe σ vs)
    (ht : ∀ i x y, xs[i]? = some x → ys[i]? = some y → LcTurn H (((wipe σ vs).set i1 (some x)).set i2 (some y)) tt te (f i) (v i)) (k : ∀ D H', H D = none → Ex H H' → H' D = some (.lst (acc xs.length)) → Q (.ref D) H') :
    tLc (RZ.iZipA K ta) (gTup K 2 (gCons (gName i1) (gCons (gName i2) gNil))) tt te vs σ H Q := by
  refine h _ ⟨a, b, xs, ys, rfl, .inr ⟨hx, hy, fun D hD => ?_⟩⟩
  refine lc_it (walk_zipT (K := K) (a := a) (b := b) he) (fun i H' => Ex H H' ∧ H' D = some (.lst (acc i))) ⟨ex_new hD, by rw [upd_same, hA.1]⟩ (fun i H' _ p => ⟨(ex_sb p.1).t _ _ hx, (ex_sb p.1).t _ _ hy⟩) (fun i z H' H2 hi p y => ?_) (fun H' p => k D H' hD p.1 p.2)
  obtain ⟨T, x, u, ev, hT, eH, hxi, hyi⟩ := y
  subst ev eH
  refine ⟨T, [x, u], rfl, SqT.of upd_same, rfl, x, [u], rfl, u, [], rfl, rfl, hw x u, ?_⟩
  exact lc_turn hA hn hi hD (ex_newT p.1 hT) (ex_new hT _ _ p.2) (ht i x u hxi hyi) (fun i H' => Ex H H' ∧ H' D = some (.lst (acc i))) fun H2 a b => ⟨a, b⟩

/-! ### readings, a step each -/
section
variable {K : PySem.W.Frag} {σ : L2.St} {H : Hp} {Q : VK} {ta tb te : TE} {t u : TT} {D : Ends} {x y v : V}
theorem r_ret (h : te σ H D.rt) : tRet te D σ H := h
theorem r_seq {a b : TS} (h : a { D with nx := b D } σ H) : tSeq a b D σ H := h
theorem r_next (h : D.nx σ H) : tNext D σ H := h
theorem r_asg {i : Nat} (h : te σ H fun x H1 => D.nx (σ.set i (some x)) H1) : tAsg te (gName i) D σ H := h
theorem r_drop (h : te σ H fun _ H1 => D.nx σ H1) : tDrop te D σ H := h
theorem r_ifS {a b : TS} (h : t σ H fun c H1 => if c = true then a D σ H1 else b D σ H1) : tIfS t a b D σ H := h
theorem r_varE {i : Nat} (h : ∃ v, σ[i]? = some (some v) ∧ Q v H) : tVar i σ H Q := h
theorem r_var {i : Nat} (h : σ[i]? = some (some v)) (k : Q v H) : tVar i σ H Q := ⟨v, h, k⟩
theorem r_c (k : Q v H) : tC v σ H Q := k
theorem r_op {r : R2} (h : ta σ H fun x H1 => tb σ H1 fun y H2 => r x y H2 Q) : tOp r ta tb σ H Q := h
theorem r_I0 {g : Int → Int → V} {i j : Int} (k : Q (g i j) H) : rI0 g (.int i) (.int j) H Q := ⟨i, j, rfl, rfl, k⟩
theorem r_I {c : Int → Int → Prop} {g : Int → Int → V} {i j : Int} (hc : c i j) (k : Q (g i j) H) : rI c g (.int i) (.int j) H Q := ⟨i, j, rfl, rfl, hc, k⟩
theorem r_eq (hs : scal x y = true) (k : Q (.bl (decide (x = y))) H) : rEq x y H Q := ⟨hs, k⟩
theorem r_ne (hs : scal x y = true) (k : Q (.bl (!decide (x = y))) H) : rNe x y H Q := ⟨hs, k⟩
theorem r_nil {R : List V → Hp → Prop} (k : R [] H) : tNil σ H R := k
theorem r_cons {tr : TA} {R : List V → Hp → Prop} (h : ta σ H fun x H1 => tr σ H1 fun xs H2 => R (x :: xs) H2) : tCons ta tr σ H R := h
theorem r_cb {r : List V → Hp → VK → Prop} {tr : TA} (h : tr σ H fun vs H1 => r vs H1 Q) : tCB r tr σ H Q := h
theorem r_call {sp : Sp} {E : L2.St → XK} {tr : TA} (h : tr σ H fun vs H1 => sp vs H1 Q (E σ)) : tCallS sp E tr σ H Q := h
theorem r_test {R : Bool → Hp → Prop} (h : te σ H fun x H' => ∃ k, x = .bl k ∧ R k H') : tTest te σ H R := h
theorem r_tB {R : Bool → Hp → Prop} (h : te σ H fun x H' => ∃ k, x = .bl k ∧ R k H') : tB te σ H R := h
theorem r_bl {b : Bool} {R : Bool → Hp → Prop} (k : R b H) : ∃ c, V.bl b = .bl c ∧ R c H := ⟨b, rfl, k⟩
theorem r_not {R : Bool → Hp → Prop} (h : t σ H fun c H1 => R (!c) H1) : tNot t σ H R := h
theorem r_and {R : Bool → Hp → Prop} (h : t σ H fun c H1 => if c = true then u σ H1 R else R false H1) : tAnd t u σ H R := h
theorem r_or {R : Bool → Hp → Prop} (h : t σ H fun c H1 => if c = true then R true H1 else u σ H1 R) : tOr t u σ H R := h
theorem r_if (h : t σ H fun c H1 => if c = true then ta σ H1 Q else tb σ H1 Q) : tIf t ta tb σ H Q := h
theorem r_isa {T : String} (h : te σ H fun x H1 => ∃ d, Dp K H1 x d ∧ Q (.bl (isaD T d)) H1) : tIsa K T te σ H Q := h
theorem r_tup {tr : TA} (h : tr σ H fun xs H1 => xs.length ≤ sizeLine ∧ ∀ p, H1 p = none → Q (.ref p) (upd H1 p (.tup xs))) : tTup tr σ H Q := h
theorem r_lst {tr : TA} (h : tr σ H fun xs H1 => xs.length ≤ sizeLine ∧ ∀ p, H1 p = none → Q (.ref p) (upd H1 p (.lst xs))) : tLst tr σ H Q := h
/-- what a for is to give, over an iterator J -/
def ForB (J : It) (g : TG) (tb : TS) (D : Ends) (σ : L2.St) (H1 : Hp) : Prop := ∃ W : Nat → Nat → L2.St → Hp → Prop, (∃ m, W 0 m σ H1) ∧ ∀ i m σ H, W i m σ H →
  (J.stop i H ∧ D.nx σ H) ∨ (J.go i H ∧ ∃ N : L2.St → Hp → Prop, (∀ σ' H', N σ' H' → ∃ m', m' < m ∧ W (i + 1) m' σ' H') ∧ ∀ x H', J.yld i H x H' → g x σ H' fun σ2 H2 => tb { D with nx := N, ct := N, bk := D.nx } σ2 H2)
theorem r_for {wi : TI} {g : TG} {tb : TS} (h : wi σ H fun J H1 => ForB J g tb D σ H1) : tFor wi g tb D σ H := h
theorem forW {J : It} {n : Nat} {G : Hp → Prop} {Y : Nat → Hp → V → Hp → Prop} {g : TG} {tb : TS} (w : Walk J n G Y) (Pv : Nat → L2.St → Hp → Prop) (h0 : Pv 0 σ H) (hG : ∀ i σ H, i ≤ n → Pv i σ H → G H)
    (hs : ∀ i x σ H H', i < n → Pv i σ H → Y i H x H' → g x σ H' fun σ2 H2 => tb { D with nx := Pv (i + 1), ct := Pv (i + 1), bk := D.nx } σ2 H2) (hd : ∀ σ H, Pv n σ H → D.nx σ H) : ForB J g tb D σ H := for_it w Pv h0 hG hs hd
theorem r_iTup {R : It → Hp → Prop} (h : te σ H fun x H1 => ∃ a, x = .ref a ∧ (∃ xs, SqT K H1 a xs) ∧ R (Itt K a) H1) : iTup K te σ H R := h
theorem r_iList {R : It → Hp → Prop} (h : te σ H fun x H1 => ∃ a, x = .ref a ∧ (∃ xs, SqL K H1 a xs) ∧ R (Itl K a) H1) : iList K te σ H R := h
theorem r_rng1 {t : TA} {R : It → Hp → Prop} (h : t σ H fun vs H1 => ∃ j : Int, vs = [.int j] ∧ -(2 ^ 62) ≤ j ∧ j < 2 ^ 62 ∧ R (Itr 0 j.toNat) H1) : iRng1 t σ H R := h
theorem r_rng2 {t : TA} {R : It → Hp → Prop} (h : t σ H fun vs H1 => ∃ i j : Int, vs = [.int i, .int j] ∧ (-(2 ^ 62) ≤ i ∧ i < 2 ^ 62 ∧ -(2 ^ 62) ≤ j ∧ j < 2 ^ 62) ∧ R (Itr i (j - i).toNat) H1) : iRng2 t σ H R := h
theorem r_zipA {t : TA} {R : It → Hp → Prop} (h : t σ H fun vs H1 => ∃ a b xs ys, vs = [.ref a, .ref b] ∧ ((SqL K H1 a xs ∧ SqL K H1 b ys ∧ R (Itz K a b) H1) ∨ (SqT K H1 a xs ∧ SqT K H1 b ys ∧ R (RZ.ItzT K a b) H1))) : RZ.iZipA K t σ H R := h
theorem r_enT {t : TA} {R : It → Hp → Prop} (h : t σ H fun vs H1 => ∃ a xs, vs = [.ref a] ∧ SqT K H1 a xs ∧ R (IteT K a) H1) : iEnumT K t σ H R := h
theorem r_enL {t : TA} {R : It → Hp → Prop} (h : t σ H fun vs H1 => ∃ a xs, vs = [.ref a] ∧ SqL K H1 a xs ∧ R (Ite K a) H1) : iEnum K t σ H R := h
theorem r_revA {R : It → Hp → Prop} (h : te σ H fun v H1 => ∃ (a : Addr) (xs : List V), v = .ref a ∧ ((SqL K H1 a xs ∧ R (Itv K a xs.length) H1) ∨ (SqT K H1 a xs ∧ R (RT.ItvT K a xs.length) H1))) : RT.iRevA K te σ H R := h
theorem r_augE {i : Nat} {ti : TIp} (h : ∃ x, σ[i]? = some (some x) ∧ te σ H fun y H1 => ti x y H1 fun z H2 => D.nx (σ.set i (some z)) H2) : tAug i te ti D σ H := h
theorem r_ipI {f : Int → Int → Int} {i j : Int} (k : Q (.int (f i j)) H) : ipI f (.int i) (.int j) H Q := ⟨i, j, rfl, rfl, k⟩
theorem r_rAdd {i j : Int} (k : Q (.int (i + j)) H) : rAdd (.int i) (.int j) H Q := ⟨i, j, rfl, rfl, k⟩
theorem r_bm {T : String} {r : V → List V → Hp → VK → Prop} {t : TA} (h : te σ H fun x H1 => tyV K T x H1 ∧ t σ H1 fun xs H2 => r x xs H2 Q) : tBM K T r te t σ H Q := h
theorem r_bm0 {T : String} {r : V → List V → Hp → VK → Prop} (h : te σ H fun x H1 => tyV K T x H1 ∧ r x [] H1 Q) : tBM0 K T r te σ H Q := h
theorem r_gn {i : Nat} {R : L2.St → Hp → Prop} (k : R (σ.set i (some v)) H) : gName i v σ H R := k
theorem r_asgG {g : TG} (h : te σ H fun x H1 => g x σ H1 D.nx) : tAsg te g D σ H := h
theorem r_sl {r : V → Option Int → Option Int → Hp → VK → Prop} {tl th : TO} (h : te σ H fun x H1 => tl σ H1 fun l H2 => th σ H2 fun u H3 => r x l u H3 Q) : L2.tSl r te tl th σ H Q := h
theorem r_nop {R : Option Int → Hp → Prop} (k : R none H) : tNoPart σ H R := k
theorem r_part {R : Option Int → Hp → Prop} (h : te σ H fun x H1 => ∃ i, x = .int i ∧ R (some i) H1) : tPart te σ H R := h
theorem r_int {R : Int → Prop} {i : Int} (k : R i) : ∃ j, V.int i = .int j ∧ R j := ⟨i, rfl, k⟩
theorem r_bll {R : Bool → Prop} {b : Bool} (k : R b) : ∃ j, V.bl b = .bl j ∧ R j := ⟨b, rfl, k⟩
theorem r_un {r : V → Hp → VK → Prop} (h : te σ H fun x H1 => r x H1 Q) : tUn r te σ H Q := h
theorem r_rU {f : Int → V} {i : Int} (k : Q (f i) H) : rU f (.int i) H Q := ⟨i, rfl, k⟩
theorem r_chain {r r' : R2} {tc : TE} (h : ta σ H fun x H1 => tb σ H1 fun y H2 => r x y H2 fun z H3 => ∃ k, z = .bl k ∧ (if k = true then tc σ H3 fun w' H4 => r' y w' H4 Q else Q (.bl false) H3)) : tChain r r' ta tb tc σ H Q := h
theorem r_revL {K : PySem.W.Frag} {p : Addr} {xs : List V} (hs : SqL K H p xs) (k : ∀ q, H q = none → Q (.ref q) (upd H q (.lst xs.reverse))) (h : Val te σ H (.ref p)) : tRevL K te σ H Q := h _ ⟨p, xs, rfl, hs, k⟩
/-- a pair's two names -/
theorem r_pair {T : Addr} {i j : Nat} {x y : V} {R : L2.St → Hp → Prop} (hs : SqT K H T [x, y]) (k : R ((σ.set i (some x)).set j (some y)) H) : gTup K 2 (gCons (gName i) (gCons (gName j) gNil)) (.ref T) σ H R :=
  ⟨T, [x, y], rfl, hs, rfl, x, [y], rfl, y, [], rfl, rfl, k⟩
theorem small_line {n : Nat} (h : n ≤ 1000000) : n < sizeLine := by
  have : (1000000 : Nat) < sizeLine := by decide
  omega
theorem r_append {l : Addr} {xs : List V} (h : H l = some (.lst xs)) (hz : xs.length ≤ 1000000) (k : Q .non (upd H l (.lst (xs ++ [v])))) : rAppend (.ref l) [v] H Q := ⟨l, xs, v, rfl, rfl, h, small_line hz, k⟩
theorem r_fldE {f : Str} (h : ta σ H fun x H1 => ∃ a C dx fs v, x = .ref a ∧ H1 a = some (.ins C dx fs) ∧ Cls K C ∧ NoAttr K C f ∧ fs.lookup f = some v ∧ Q v H1) : tFld K ta f σ H Q := h
theorem r_sfld {f : Str} (h : tb σ H fun y H1 => ta σ H1 fun x H2 => ∃ a C dx fs, x = .ref a ∧ H2 a = some (.ins C dx fs) ∧ Cls K C ∧ NoAttr K C f ∧ fs.length < 1000 ∧ D.nx σ (upd H2 a (.ins C dx (putF f y fs)))) : sFld K ta tb f D σ H := h
theorem r_sfldaug {f : Str} {rd : V → V → Hp → VK → Prop} (h : ta σ H fun x H1 => ∃ a C dx fs v, x = .ref a ∧ H1 a = some (.ins C dx fs) ∧ Cls K C ∧ NoAttr K C f ∧ fs.lookup f = some v ∧
    tb σ H1 fun y H2 => rd v y H2 fun z H3 => ∃ dx' fs', H3 a = some (.ins C dx' fs') ∧ fs'.length < 1000 ∧ D.nx σ (upd H3 a (.ins C dx' (putF f z fs')))) : sFldAug K ta tb rd f D σ H := h
theorem r_lstRg {t : L2.St → Hp → (Int → Int → Hp → Prop) → Prop} (h : t σ H fun a b H1 => RgOk a b ∧ ∀ q, H1 q = none → Q (.ref q) (upd H1 q (.lst (rgV a b)))) : tLstRg t σ H Q := h
theorem r_rg1 {R : Int → Int → Hp → Prop} (h : te σ H fun x H1 => ∃ n, x = .int n ∧ R 0 n H1) : tRg1 te σ H R := h
theorem r_dget (h : ta σ H fun x H1 => tb σ H1 fun y H2 => ∃ a v, x = .ref a ∧ DGet H2 a y (some v) ∧ Q v H2) : tDGet ta tb σ H Q := h
theorem r_dput {tv : TE} (h : tv σ H fun v H1 => ta σ H1 fun x H2 => tb σ H2 fun y H3 => ∃ a H4, x = .ref a ∧ DPut H3 a y v H4 ∧ D.nx σ H4) : sDPut ta tb tv D σ H := h
theorem r_disp {trs : List (TE × TE)} (h : ∀ p, H p = none → tPairs trs σ (upd H p (.dK [])) fun ps H2 => H2 p = some (.dK []) ∧ ∃ kvs : List (Key × V), ps = kvs.map (fun kv => (kV kv.1, kv.2)) ∧ kvs.length ≤ 15 ∧ Q (.ref p) (upd H2 p (.dK (mergeK [] kvs)))) : tDisp trs σ H Q := h
theorem r_gsub {t : TSet} {R : L2.St → Hp → Prop} (h : ta σ H fun o H1 => tb σ H1 fun i H2 => t o i v H2 fun H3 => R σ H3) : gSub ta tb t v σ H R := h
theorem r_pairC {trs : List (TE × TE)} {R : List (V × V) → Hp → Prop} (h : ta σ H fun x H1 => tb σ H1 fun y H2 => tPairs trs σ H2 fun ps H3 => R ((x, y) :: ps) H3) : tPairs ((ta, tb) :: trs) σ H R := h
theorem r_pairN {R : List (V × V) → Hp → Prop} (k : R [] H) : tPairs [] σ H R := k
theorem r_while {c : TT} {tb : TS} (W : Nat → L2.St → Hp → Prop) (m0 : Nat) (h0 : W m0 σ H)
    (hs : ∀ m σ H, W m σ H → c σ H fun b H1 => if b = true then ∃ N : L2.St → Hp → Prop, (∀ σ' H', N σ' H' → ∃ m', m' < m ∧ W m' σ' H') ∧ tb { D with nx := N, ct := N, bk := D.nx } σ H1 else D.nx σ H1) : tWhile c tb D σ H := ⟨W, ⟨m0, h0⟩, hs⟩
theorem r_andV (h : ta σ H fun x H1 => ∃ c, x = .bl c ∧ if c = true then tb σ H1 Q else Q (.bl false) H1) : tAndV ta tb σ H Q := h
theorem r_orV (h : ta σ H fun x H1 => ∃ c, x = .bl c ∧ if c = true then Q (.bl true) H1 else tb σ H1 Q) : tOrV ta tb σ H Q := h
theorem r_notV (h : ta σ H fun x H1 => ∃ c, x = .bl c ∧ Q (.bl (!c)) H1) : tNotV ta σ H Q := h
theorem r_triple {T : Addr} {i j l : Nat} {x y z : V} {R : L2.St → Hp → Prop} (hs : SqT K H T [x, y, z]) (k : R (((σ.set i (some x)).set j (some y)).set l (some z)) H) : gTup K 3 (gCons (gName i) (gCons (gName j) (gCons (gName l) gNil))) (.ref T) σ H R :=
  ⟨T, [x, y, z], rfl, hs, rfl, x, [y, z], rfl, y, [z], rfl, z, [], rfl, rfl, k⟩
theorem r_meth {C : Addr} {m : Str} {sp : Sp} {E : L2.St → XK} {t : TA} (h : ta σ H fun x H1 => ∃ a dx fs, x = .ref a ∧ H1 a = some (.ins C dx fs) ∧ fs.lookup m = none ∧ t σ H1 fun vs H2 => sp (x :: vs) H2 Q (E σ)) : tMethS C m sp E ta t σ H Q := h
theorem r_make {C : Addr} {sp : Sp} {E : L2.St → XK} {t : TA} (h : t σ H fun vs H1 => ∀ x dx, H1 x = none → H1 dx = none → dx ≠ x → sp (.ref x :: vs) (upd (upd H1 dx (.own x)) x (.ins C dx [])) (fun v H2 => v = .non ∧ Q (.ref x) H2) (E σ)) : tMakeS C sp E t σ H Q := h
theorem r_ixT {p : Addr} {xs : List V} {i : Int} (h : SqT K H p xs) (ha : atI xs i = some v) (k : Q v H) : rIxT K (.ref p) (.int i) H Q := ⟨p, xs, i, v, rfl, rfl, h, ha, k⟩
theorem r_ixL {p : Addr} {xs : List V} {i : Int} (h : SqL K H p xs) (ha : atI xs i = some v) (k : Q v H) : rIxL K (.ref p) (.int i) H Q := ⟨p, xs, i, v, rfl, rfl, h, ha, k⟩
theorem r_fld {f : Str} {a C dx : Addr} {fs : List (Str × V)} (ho : H a = some (.ins C dx fs)) (hc : Cls K C) (hn : NoAttr K C f) (hl : fs.lookup f = some v) (k : Q v H) (h : Val ta σ H (.ref a)) : tFld K ta f σ H Q := h _ ⟨a, C, dx, fs, v, rfl, ho, hc, hn, hl, k⟩
theorem r_lenT {a : Addr} {xs : List V} (h : SqT K H a xs) (k : Q (.int (xs.length : Int)) H) : ∃ p ys, [V.ref a] = [.ref p] ∧ (SqL K H p ys ∨ SqT K H p ys) ∧ Q (.int (ys.length : Int)) H := ⟨a, xs, rfl, .inr h, k⟩
theorem at_ints {r : List Int} {k : Nat} (h : k < r.length) : atI (r.map V.int) (k : Int) = some (.int (r.getD k 0)) := by
  refine atI_nat ?_
  rw [List.getElem?_map, List.getElem?_eq_getElem h, List.getD_eq_getElem?_getD, List.getElem?_eq_getElem h]
  rfl
end

/-! ### maps and filters as comprehensions -/
section
variable {α : Type} {K : PySem.W.Frag} {σ : L2.St} {H : Hp} {Q : VK} {tl te : TE} {tt : TT} {j : Nat} {vs : List Nat} {a : Addr} {xs : List V} {zs : List α} (g : α → V) (p : α → Bool)
theorem lcT_map (h : Val tl σ H (.ref a)) (hx : SqT K H a xs) (hl : xs.length = zs.length) (hn : xs.length ≤ 1000000) (hw : ∀ x, wipe ((wipe σ vs).set j (some x)) vs = wipe σ vs)
    (ht : ∀ (i : Nat) (x : V) (z : α), xs[i]? = some x → zs[i]? = some z → ∀ H', Ex H H' → ∀ R : VK, (∀ H2, Ex H' H2 → R (g z) H2) → te ((wipe σ vs).set j (some x)) H' R)
    (k : ∀ D H', H D = none → Ex H H' → H' D = some (.lst (zs.map g)) → Q (.ref D) H') : tLc (iTup K tl) (gName j) tYes te vs σ H Q := by
  refine lcT (fun _ => true) _ _ h hx hn (hl ▸ acc_map zs g) hw (fun i x e => ?_) fun D H' hD e h1 => k D H' hD e ?_
  · have hi : i < zs.length := by
      rw [← hl]
      exact (List.getElem?_eq_some_iff.mp e).1
    refine yes_turn fun H' e2 R q => ht i x _ e (List.getElem?_eq_getElem hi) H' e2 R fun H2 e3 => ?_
    have z := q H2 e3
    rw [List.getElem?_eq_getElem hi] at z
    exact z
  · rw [hl] at h1
    rw [h1, List.take_length]
theorem lcT_fil (h : Val tl σ H (.ref a)) (hx : SqT K H a xs) (hl : xs.length = zs.length) (hn : xs.length ≤ 1000000) (hw : ∀ x, wipe ((wipe σ vs).set j (some x)) vs = wipe σ vs)
    (hc : ∀ (i : Nat) (x : V) (z : α), xs[i]? = some x → zs[i]? = some z → ∀ H', Ex H H' → ∀ R : Bool → Hp → Prop, (∀ H2, Ex H' H2 → R (p z) H2) → tt ((wipe σ vs).set j (some x)) H' R)
    (ht : ∀ (i : Nat) (x : V) (z : α), xs[i]? = some x → zs[i]? = some z → p z = true → ∀ H', Ex H H' → ∀ R : VK, (∀ H2, Ex H' H2 → R (g z) H2) → te ((wipe σ vs).set j (some x)) H' R)
    (k : ∀ D H', H D = none → Ex H H' → H' D = some (.lst ((zs.filter p).map g)) → Q (.ref D) H') : tLc (iTup K tl) (gName j) tt te vs σ H Q := by
  refine lcT _ _ _ h hx hn (hl ▸ acc_filter zs p g) hw (fun i x e => ?_) fun D H' hD e h1 => k D H' hD e ?_
  · have hi : i < zs.length := by
      rw [← hl]
      exact (List.getElem?_eq_some_iff.mp e).1
    have hz := List.getElem?_eq_getElem hi
    refine ⟨fun H' e2 R q => hc i x _ e hz H' e2 R fun H2 e3 => ?_, fun hb H' e2 R q => ht i x _ e hz ?_ H' e2 R fun H2 e3 => ?_⟩
    · have z := q H2 e3
      rw [hz] at z
      exact z
    · rw [hz] at hb
      exact hb
    · have z := q H2 e3
      rw [hz] at z
      exact z
  · rw [hl] at h1
    rw [h1, List.take_length]
theorem lcL_map (h : Val tl σ H (.ref a)) (hx : SqL K H a xs) (hl : xs.length = zs.length) (hn : xs.length ≤ 1000000) (hw : ∀ x, wipe ((wipe σ vs).set j (some x)) vs = wipe σ vs)
    (ht : ∀ (i : Nat) (x : V) (z : α), xs[i]? = some x → zs[i]? = some z → ∀ H', Ex H H' → ∀ R : VK, (∀ H2, Ex H' H2 → R (g z) H2) → te ((wipe σ vs).set j (some x)) H' R)
    (k : ∀ D H', H D = none → Ex H H' → H' D = some (.lst (zs.map g)) → Q (.ref D) H') : tLc (iList K tl) (gName j) tYes te vs σ H Q := by
  refine lcL (fun _ => true) _ _ h hx hn (hl ▸ acc_map zs g) hw (fun i x e => ?_) fun D H' hD e h1 => k D H' hD e ?_
  · have hi : i < zs.length := by
      rw [← hl]
      exact (List.getElem?_eq_some_iff.mp e).1
    refine yes_turn fun H' e2 R q => ht i x _ e (List.getElem?_eq_getElem hi) H' e2 R fun H2 e3 => ?_
    have z := q H2 e3
    rw [List.getElem?_eq_getElem hi] at z
    exact z
  · rw [hl] at h1
    rw [h1, List.take_length]
theorem lcL_fil (h : Val tl σ H (.ref a)) (hx : SqL K H a xs) (hl : xs.length = zs.length) (hn : xs.length ≤ 1000000) (hw : ∀ x, wipe ((wipe σ vs).set j (some x)) vs = wipe σ vs)
    (hc : ∀ (i : Nat) (x : V) (z : α), xs[i]? = some x → zs[i]? = some z → ∀ H', Ex H H' → ∀ R : Bool → Hp → Prop, (∀ H2, Ex H' H2 → R (p z) H2) → tt ((wipe σ vs).set j (some x)) H' R)
    (ht : ∀ (i : Nat) (x : V) (z : α), xs[i]? = some x → zs[i]? = some z → p z = true → ∀ H', Ex H H' → ∀ R : VK, (∀ H2, Ex H' H2 → R (g z) H2) → te ((wipe σ vs).set j (some x)) H' R)
    (k : ∀ D H', H D = none → Ex H H' → H' D = some (.lst ((zs.filter p).map g)) → Q (.ref D) H') : tLc (iList K tl) (gName j) tt te vs σ H Q := by
  refine lcL _ _ _ h hx hn (hl ▸ acc_filter zs p g) hw (fun i x e => ?_) fun D H' hD e h1 => k D H' hD e ?_
  · have hi : i < zs.length := by
      rw [← hl]
      exact (List.getElem?_eq_some_iff.mp e).1
    have hz := List.getElem?_eq_getElem hi
    refine ⟨fun H' e2 R q => hc i x _ e hz H' e2 R fun H2 e3 => ?_, fun hb H' e2 R q => ht i x _ e hz ?_ H' e2 R fun H2 e3 => ?_⟩
    · have z := q H2 e3
      rw [hz] at z
      exact z
    · rw [hz] at hb
      exact hb
    · have z := q H2 e3
      rw [hz] at z
      exact z
  · rw [hl] at h1
    rw [h1, List.take_length]
theorem lcR_map {n : Nat} (g : Nat → V) (hn : n ≤ 1000000) (h : Val tl σ H (.int (n : Int))) (hw : ∀ x, wipe ((wipe σ vs).set j (some x)) vs = wipe σ vs)
    (ht : ∀ i, i < n → ∀ H', Ex H H' → ∀ R : VK, (∀ H2, Ex H' H2 → R (g i) H2) → te ((wipe σ vs).set j (some (.int (i : Int)))) H' R)
    (k : ∀ D H', H D = none → Ex H H' → H' D = some (.lst ((List.range n).map g)) → Q (.ref D) H') : tLc (iRng1 (tCons tl tNil)) (gName j) tYes te vs σ H Q := by
  have A := acc_map (List.range n) g
  rw [List.length_range] at A
  refine lcR (fun _ => true) _ _ hn h A hw (fun i hi => yes_turn fun H' e2 R q => ht i hi H' e2 R fun H2 e3 => ?_) fun D H' hD e h1 => k D H' hD e ?_
  · have z := q H2 e3
    rw [List.getElem?_range hi] at z
    exact z
  · rw [h1, List.take_of_length_le (by rw [List.length_range]; exact Nat.le_refl n)]
theorem lcR_fil {n : Nat} (g : Nat → V) (p : Nat → Bool) (hn : n ≤ 1000000) (h : Val tl σ H (.int (n : Int))) (hw : ∀ x, wipe ((wipe σ vs).set j (some x)) vs = wipe σ vs)
    (hc : ∀ i, i < n → ∀ H', Ex H H' → ∀ R : Bool → Hp → Prop, (∀ H2, Ex H' H2 → R (p i) H2) → tt ((wipe σ vs).set j (some (.int (i : Int)))) H' R)
    (ht : ∀ i, i < n → p i = true → ∀ H', Ex H H' → ∀ R : VK, (∀ H2, Ex H' H2 → R (g i) H2) → te ((wipe σ vs).set j (some (.int (i : Int)))) H' R)
    (k : ∀ D H', H D = none → Ex H H' → H' D = some (.lst (((List.range n).filter p).map g)) → Q (.ref D) H') : tLc (iRng1 (tCons tl tNil)) (gName j) tt te vs σ H Q := by
  have A := acc_filter (List.range n) p g
  rw [List.length_range] at A
  refine lcR _ _ _ hn h A hw (fun i hi => ⟨fun H' e2 R q => hc i hi H' e2 R fun H2 e3 => ?_, fun hb H' e2 R q => ht i hi ?_ H' e2 R fun H2 e3 => ?_⟩) fun D H' hD e h1 => k D H' hD e ?_
  · have z := q H2 e3
    rw [List.getElem?_range hi] at z
    exact z
  · rw [List.getElem?_range hi] at hb
    exact hb
  · have z := q H2 e3
    rw [List.getElem?_range hi] at z
    exact z
  · rw [h1, List.take_of_length_le (by rw [List.length_range]; exact Nat.le_refl n)]
theorem lcZ_map {ta : TA} {i1 i2 : Nat} {b : Addr} {ys : List V} (h : ∀ R : List V → Hp → Prop, R [.ref a, .ref b] H → ta σ H R) (hx : SqT K H a xs) (hy : SqT K H b ys) (he : xs.length = ys.length) (hl : xs.length = zs.length) (hn : xs.length ≤ 1000000)
    (hw : ∀ x y, wipe (((wipe σ vs).set i1 (some x)).set i2 (some y)) vs = wipe σ vs)
    (ht : ∀ (i : Nat) (x y : V) (z : α), xs[i]? = some x → ys[i]? = some y → zs[i]? = some z → ∀ H', Ex H H' → ∀ R : VK, (∀ H2, Ex H' H2 → R (g z) H2) → te (((wipe σ vs).set i1 (some x)).set i2 (some y)) H' R)
    (k : ∀ D H', H D = none → Ex H H' → H' D = some (.lst (zs.map g)) → Q (.ref D) H') : tLc (RZ.iZipA K ta) (gTup K 2 (gCons (gName i1) (gCons (gName i2) gNil))) tYes te vs σ H Q := by
  refine lcZ (fun _ => true) _ _ h hx hy he hn (hl ▸ acc_map zs g) hw (fun i x y e e' => ?_) fun D H' hD e h1 => k D H' hD e ?_
  · have hi : i < zs.length := by
      rw [← hl]
      exact (List.getElem?_eq_some_iff.mp e).1
    refine yes_turn fun H' e2 R q => ht i x y _ e e' (List.getElem?_eq_getElem hi) H' e2 R fun H2 e3 => ?_
    have z := q H2 e3
    rw [List.getElem?_eq_getElem hi] at z
    exact z
  · rw [hl] at h1
    rw [h1, List.take_length]
end
/-! ### the same rules, the written part named -/
section
variable {X : Cx} {tg e o a b : Expr} {es : List Expr} {te to ta : TE} {t : TA} {p pos apos cpos tpos : Pos} {elts : List Expr} {kk : Nat} {f name : Str}
theorem ixT (K : PySem.W.Frag) (hK : X.K = K := by rfl) : IxR X (rIxT K) := hK ▸ ix_tup
theorem ixL (K : PySem.W.Frag) (hK : X.K = K := by rfl) : IxR X (rIxL K) := hK ▸ ix_list
theorem cLen (K : PySem.W.Frag) (hK : X.K = K := by rfl) : CallR X (.builtin "len") (fun xs H Q => ∃ p ys, xs = [.ref p] ∧ (SqL K H p ys ∨ SqT K H p ys) ∧ Q (.int ys.length) H) := hK ▸ call_len_seq
theorem cMin (K : PySem.W.Frag) (hc : X.calm = true) (hK : X.K = K := by rfl) : CallR X (.builtin "min") (rMinA K) := hK ▸ cr_minA hc
theorem cMax (K : PySem.W.Frag) (hc : X.calm = true) (hK : X.K = K := by rfl) : CallR X (.builtin "max") (rMaxA K) := hK ▸ cr_maxA hc
theorem cAll (K : PySem.W.Frag) (hc : X.calm = true) (hK : X.K = K := by rfl) : CallR X (.builtin "all") (rAll K) := hK ▸ cr_all hc
theorem cAny (K : PySem.W.Frag) (hc : X.calm = true) (hK : X.K = K := by rfl) : CallR X (.builtin "any") (rAny K) := hK ▸ cr_any hc
theorem cSum (K : PySem.W.Frag) (hc : X.calm = true) (hK : X.K = K := by rfl) : CallR X (.builtin "sum") (rSum K) := hK ▸ cr_sum hc
theorem cRepr (K : PySem.W.Frag) (hg : X.A.guards = some []) (hu : X.A.units + 64 < cLine) (hK : X.K = K := by rfl) : CallR X (.builtin "repr") (rRepD K) := hK ▸ call_reprD hg hu
theorem cList (K : PySem.W.Frag) (hK : X.K = K := by rfl) : CallR X (.type "list") (fun xs H Q => ∃ p ys, xs = [.ref p] ∧ (SqL K H p ys ∨ SqT K H p ys) ∧ ∀ l, H l = none → Q (.ref l) (upd H l (.lst ys))) := hK ▸ call_list_of
theorem cTup (K : PySem.W.Frag) (hK : X.K = K := by rfl) : CallR X (.type "tuple") (fun xs H Q => ∃ p ys, xs = [.ref p] ∧ ((SqL K H p ys ∧ ∀ l, H l = none → Q (.ref l) (upd H l (.tup ys))) ∨ (SqT K H p ys ∧ Q (.ref p) H))) := hK ▸ call_tuple_of
theorem cSet (K : PySem.W.Frag) (hc : X.calm = true) (hK : X.K = K := by rfl) : CallR X (.type "set") (rSetT K X.w) := hK ▸ cr_setT hc
theorem slT (K : PySem.W.Frag) (hK : X.K = K := by rfl) : SlR X (rSlTA K) := hK ▸ sl_tupA
theorem slL (K : PySem.W.Frag) (hK : X.K = K := by rfl) : SlR X (rSlL K) := hK ▸ sl_list
theorem inK (K : PySem.W.Frag) (hK : X.K = K := by rfl) : OpR X (compareOp .In) (rIn K false) := hK ▸ op_in_seq
theorem niK (K : PySem.W.Frag) (hK : X.K = K := by rfl) : OpR X (compareOp .NotIn) (rIn K true) := hK ▸ op_notIn_seq
theorem eqK (K : PySem.W.Frag) (hu : X.A.units + 64 < cLine) (hK : X.K = K := by rfl) : OpR X (compareOp .Eq) (rEqD K) := hK ▸ op_eqD hu
theorem neK (K : PySem.W.Frag) (hu : X.A.units + 64 < cLine) (hK : X.K = K := by rfl) : OpR X (compareOp .NotEq) (rNeD K) := hK ▸ op_neD hu
theorem ctT (K : PySem.W.Frag) (hK : X.K = K := by rfl) : OpR X (binaryOp .Add) (rCatT K) := hK ▸ op_catT
theorem mulT (K : PySem.W.Frag) (hK : X.K = K := by rfl) : OpR X (binaryOp .Mult) (rTupMul K) := hK ▸ op_tupMul
theorem mIndex (K : PySem.W.Frag) (hK : X.K = K := by rfl) : MtR X "list.index" (rIndex K) := hK ▸ mt_index
theorem piT (K : PySem.W.Frag) (h : PE X e te) (hK : X.K = K := by rfl) : PI X tg e (iTup K te) := hK ▸ pi_tup h
theorem piL (K : PySem.W.Frag) (h : PE X e te) (hK : X.K = K := by rfl) : PI X tg e (iList K te) := hK ▸ pi_list h
theorem fldK (K : PySem.W.Frag) (he : PE X e te) (hb : attributeBase e f X.env (eval e X.env) = eval e X.env) (hK : X.K = K := by rfl) : PE X (.Attribute e f pos) (tFld K te f) := hK ▸ pe_fld he hb
theorem gtupK (K : PySem.W.Frag) {k n : Nat} {ts : List Expr} {u : TGs} (hc : X.calm = true) (h : PGs X ts u) (hn : (assignEach ts X.env).length = n := by rfl) (hst : (assignEach ts X.env).findIdx? (·.1) = none := by rfl) (hK : X.K = K := by rfl) : PG X (.Tuple ts k pos) (gTup K n u) := hK ▸ pg_tup hc h hn hst
theorem isaK2 (K : PySem.W.Frag) {T : String} (h : PE X e (tIsa X.K T te)) (hK : X.K = K := by rfl) : PE X e (tIsa K T te) := hK ▸ h
theorem bmK (K : PySem.W.Frag) {T : String} {r : V → List V → Hp → VK → Prop} (h : PE X e (tBM X.K T r to t)) (hK : X.K = K := by rfl) : PE X e (tBM K T r to t) := hK ▸ h
theorem bm0K (K : PySem.W.Frag) {T : String} {r : V → List V → Hp → VK → Prop} (h : PE X e (tBM0 X.K T r to)) (hK : X.K = K := by rfl) : PE X e (tBM0 K T r to) := hK ▸ h
theorem revLK (K : PySem.W.Frag) {k : Nat} {p1 p2 p3 : Pos} (he : PE X e te) (hK : X.K = K := by rfl) : PE X (.Subscript e (.Slice none none (some (.UnaryOp .USub (.Constant (.int 1) k p1) p2)) p3) pos) (tRevL K te) := hK ▸ pe_revL he
end
end Ts
/-! TsKp: comprehensions whose elements change the heap at some places. -/
namespace Ts
open PySem PySem.Spec PyProof.Rows L2
section
variable {K : PySem.W.Frag} {σ : L2.St} {H : Hp} {Q : VK} {tl te : TE} {j : Nat} {vs : List Nat} {a : Addr} {xs : List V} {L : List Addr} (I : Hp → Prop) (ok : Nat → V → Prop)
/-- an if both of whose ways lead to the same: what stands there (Pre) -/
theorem r_ifS2 {t : TT} {ta tb : TS} {D : Ends} (Pre : L2.St → Hp → Prop) (tail : ∀ σ' H', Pre σ' H' → D.nx σ' H') (h : (∀ σ' H', Pre σ' H' → D.nx σ' H') → t σ H fun c H1 => if c = true then ta D σ H1 else tb D σ H1) : tIfS t ta tb D σ H := h tail
theorem yes_if {σ2 : L2.St} {H1 : Hp} {A B : Hp → Prop} (h : A H1) : tYes σ2 H1 fun b H3 => if b = true then A H3 else B H3 := by
  show if true = true then A H1 else B H1
  exact iteT h
theorem kp_turn {D : Addr} {i : Nat} {H1 : Hp} {σ2 : L2.St} {us : List V} (hL : ∀ b ∈ L, H b ≠ none) (hI : ∀ H' D o, H D = none → I H' → I (upd H' D o)) (hi : i ≤ 1000000) (hD : H D = none)
    (kp : Kp L H H1) (i1 : I H1) (h1 : H1 D = some (.lst us)) (hl : us.length = i) (ho : ∀ m v, us[m]? = some v → ok m v)
    (ht : ∀ R : VK, (∀ v H2, Kp L H1 H2 → I H2 → ok i v → R v H2) → te σ2 H1 R) :
    tYes σ2 H1 fun b H3 => if b = true then te σ2 H3 fun y H4 => ∃ acc, H4 D = some (.lst acc) ∧ acc.length < sizeLine ∧ (fun (i : Nat) (H' : Hp) => Kp L H H' ∧ I H' ∧ ∃ us, H' D = some (.lst us) ∧ us.length = i ∧ ∀ m v, us[m]? = some v → ok m v) (i + 1) (upd H4 D (.lst (acc ++ [y]))) else (fun (i : Nat) (H' : Hp) => Kp L H H' ∧ I H' ∧ ∃ us, H' D = some (.lst us) ∧ us.length = i ∧ ∀ m v, us[m]? = some v → ok m v) (i + 1) H3 := by
  refine yes_if (ht _ fun v H2 k2 i2 hv => ?_)
  have hDL : D ∉ L := fun m => hL D m hD
  have h2 := k2 D _ h1 hDL
  refine ⟨us, h2, by rw [hl]; exact small_line hi, (kp.trans k2).chg hD, hI _ _ _ hD i2, us ++ [v], upd_same, by simp [hl], fun m u hu => ?_⟩
  by_cases hm : m < us.length
  · rw [List.getElem?_append_left hm] at hu
    exact ho m u hu
  · rw [List.getElem?_append_right (by omega)] at hu
    have z : m - us.length = 0 := by
      apply Classical.byContradiction
      intro q
      rw [List.getElem?_eq_none (by simp; omega)] at hu
      cases hu
    rw [z] at hu
    cases hu
    have : m = i := by omega
    rw [this]
    exact hv
theorem lcRK {n : Nat} (hL : ∀ b ∈ L, H b ≠ none) (hI : ∀ H' D o, H D = none → I H' → I (upd H' D o)) (i0 : I H) (hn : n ≤ 1000000) (h : Val tl σ H (.int (n : Int))) (hw : ∀ x, wipe ((wipe σ vs).set j (some x)) vs = wipe σ vs)
    (ht : ∀ i, i < n → ∀ H', Kp L H H' → I H' → ∀ R : VK, (∀ v H2, Kp L H' H2 → I H2 → ok i v → R v H2) → te ((wipe σ vs).set j (some (.int (i : Int)))) H' R)
    (k : ∀ D H' us, H D = none → Kp L H H' → I H' → H' D = some (.lst us) → us.length = n → (∀ m v, us[m]? = some v → ok m v) → Q (.ref D) H') : tLc (iRng1 (tCons tl tNil)) (gName j) tYes te vs σ H Q := by
  refine h _ ⟨n, rfl, by omega, by omega, fun D hD => ?_⟩
  rw [Int.toNat_natCast]
  refine lc_it (walk_range (lo := 0) (n := n)) (fun i H' => Kp L H H' ∧ I H' ∧ ∃ us, H' D = some (.lst us) ∧ us.length = i ∧ ∀ m v, us[m]? = some v → ok m v) ⟨Kp.new hD, hI _ _ _ hD i0, [], upd_same, rfl, fun m v e => by cases e⟩ (fun _ _ _ _ => trivial) (fun i x H1 H2 hi p y => ?_) (fun H' p => ?_)
  · obtain ⟨kp, i1, us, h1, hl, ho⟩ := p
    obtain ⟨rfl, rfl⟩ := y
    have ez : (0 : Int) + (i : Int) = (i : Int) := Int.zero_add _
    show gName j (V.int ((0 : Int) + (i : Int))) _ _ _
    rw [ez]
    exact ⟨hw _, kp_turn I ok hL hI (by omega) hD kp i1 h1 hl ho (ht i hi _ kp i1)⟩
  · obtain ⟨kp, i1, us, h1, hl, ho⟩ := p
    exact k D H' us hD kp i1 h1 hl ho
theorem lcTK (hL : ∀ b ∈ L, H b ≠ none) (hI : ∀ H' D o, H D = none → I H' → I (upd H' D o)) (i0 : I H) (hn : xs.length ≤ 1000000) (h : Val tl σ H (.ref a)) (hS : ∀ H', Kp L H H' → SqT K H' a xs) (hw : ∀ x, wipe ((wipe σ vs).set j (some x)) vs = wipe σ vs)
    (ht : ∀ i x, xs[i]? = some x → ∀ H', Kp L H H' → I H' → ∀ R : VK, (∀ v H2, Kp L H' H2 → I H2 → ok i v → R v H2) → te ((wipe σ vs).set j (some x)) H' R)
    (k : ∀ D H' us, H D = none → Kp L H H' → I H' → H' D = some (.lst us) → us.length = xs.length → (∀ m v, us[m]? = some v → ok m v) → Q (.ref D) H') : tLc (iTup K tl) (gName j) tYes te vs σ H Q := by
  refine h _ ⟨a, rfl, ⟨xs, hS H (Kp.refl H)⟩, fun D hD => ?_⟩
  refine lc_it (walk_tup (K := K) (a := a) (xs := xs)) (fun i H' => Kp L H H' ∧ I H' ∧ ∃ us, H' D = some (.lst us) ∧ us.length = i ∧ ∀ m v, us[m]? = some v → ok m v) ⟨Kp.new hD, hI _ _ _ hD i0, [], upd_same, rfl, fun m v e => by cases e⟩ (fun i H' _ p => hS H' p.1) (fun i x H1 H2 hi p y => ?_) (fun H' p => ?_)
  · obtain ⟨kp, i1, us, h1, hl, ho⟩ := p
    obtain ⟨rfl, hx⟩ := y
    exact ⟨hw _, kp_turn I ok hL hI (by omega) hD kp i1 h1 hl ho (ht i x hx _ kp i1)⟩
  · obtain ⟨kp, i1, us, h1, hl, ho⟩ := p
    exact k D H' us hD kp i1 h1 hl ho
end
end Ts
/-! TsSort: sorted(a set of ints), up to a thousand members. -/
namespace L2
open PySem PySem.Spec PyProof.Rows
section
variable {P : Program} {w : World} {A : Around} {E : Value → Shared → Prop} {s : Shared} {a : Addr}
theorem sorted_setN {S : Int → Bool} {n : Nat} {Q : Value → Shared → Prop} (R : SetR w s.heap a S n)
    (hh : A.handled = none) (hbig : n ≤ 1000)
    (hQ : ∀ t p (res : Array Value) (c : Nat) (ns : List Int),
      (∀ b o, s.heap.get? b = some o → t.heap.get? b = some o) → t.gens = s.gens → t.os = s.os →
      s.heap.objs.size ≤ p → t.heap.get? p = some (seqObj "list" res c) → IntsAre res.toList ns →
      ns.Pairwise (· < ·) → (∀ k, k ∈ ns ↔ S k = true) → ns.length = n → Q (.ref p) t) :
    wpAny (model P w) A (call (.builtin "sorted") [.ref a]) Q E s := by
  obtain ⟨o, es, ep, t, ho, hex, hd, g, nd, hm, hb, hf, hn, hr, hl⟩ := R
  refine Calls.call_function_entry kind_sorted plain_sorted entry_sorted (args_sorted1 _) ?_
  unfold Builtin.«sorted»
  refine wpAny_bind (m := checkCount "sorted" 1 1 _) (wpAny_pure ?_)
  refine wpAny_bind (collect_set (A := A.in1) hh ⟨o, ho, hex.1, hd⟩ hf hb hr hl
    fun s1 us keep1 hz g1 o1 pm => ?_)
  have hul : us.length = n := by
    rw [pm.length_eq, List.length_map, Array.length_toList]
    exact hn
  have hI : IntsAre us (us.map Builtin.Re.reRawOf) := ints_of us fun v hv => by
    obtain ⟨e, he, q⟩ := List.mem_map.mp (pm.mem_iff.mp hv)
    obtain ⟨k, tk, h1, _⟩ := g e he
    exact ⟨k, tk, by rw [← q, h1]⟩
  have pk : (us.map Builtin.Re.reRawOf).Perm (es.toList.map keyOf) := by
    have q := pm.map Builtin.Re.reRawOf
    rw [List.map_map] at q
    exact q
  have hline : us.length ≤ sizeLine := by
    rw [hul, sizeLine_eq]
    omega
  refine wpAny_bind (wpAny_newList ?_ hline)
  have hoL : (s1.heap.push (seqObj "list" us.toArray 0)).get? s1.heap.objs.size = some (seqObj "list" us.toArray 0) :=
    Heap.get?_push_size _ rfl
  refine wpAny_bind (wpAny_holding (wpAny_call_entry slot_list_sort ⟨_, hoL, rfl⟩ entry_list_sort
    (SrtO.list_sort_ord SrtO.swo_int hoL hline (fun h2 => SrtO.ints_sortable hI h2)
      fun res h1 h2 => ⟨_, rfl, ?_⟩) (args_list_sort _)))
  obtain ⟨a1, a2, a3⟩ := SrtO.ints_out hI h1 h2
  obtain ⟨c, hc⟩ := sortedHeap_at (vs := us) (out := res.toArray) hoL
  have pn : (res.map SrtO.iv).Perm (es.toList.map keyOf) := a2.trans pk
  refine wpAny_pure ⟨_, rfl, hQ _ s1.heap.objs.size res.toArray c _ (fun b u e => ?_) g1 o1 hz hc a1
    (lt_of_le_nodup _ a3 (pn.nodup_iff.mpr nd)) (fun k => by rw [pn.mem_iff, ← hm k]) ?_⟩
  · have q := keep1 b u e
    have hlt := Heap.lt_size q
    show (sortedHeap (s1.heap.push (seqObj "list" us.toArray 0)) s1.heap.objs.size us res.toArray).get? b = some u
    rw [sortedHeap_old (Nat.ne_of_lt hlt) (by rw [size_push']; exact Nat.lt_succ_of_lt hlt)]
    exact Heap.get?_push_of_some _ q
  · rw [pn.length_eq, List.length_map, Array.length_toList]
    exact hn
end
end L2
namespace Ts
open PySem PySem.Spec PyProof.Rows L2
section
variable {X : Cx}
def rSortedSetN (w : World) : List V → Hp → VK → Prop := fun vs H Q => ∃ (a : Addr) (S : Int → Bool) (n : Nat), vs = [V.ref a] ∧ H a = some (SetO w a S n) ∧ n ≤ 1000 ∧
  ∀ (ns : List Int) (p : Addr), ns.Pairwise (· < ·) → (∀ k : Int, k ∈ ns ↔ S k = true) → ns.length = n → H p = none → Q (.ref p) (upd H p (.lst (ns.map V.int)))
theorem cr_sortedSetN (hc : X.calm = true) : CallR X (.builtin "sorted") (rSortedSetN X.w) := by
  intro pins s σ H vs us Q I r h
  obtain ⟨a, S, n, rfl, ha, hbig, q⟩ := h
  rw [Vals.ref1 r]
  refine sorted_setN (setO_get I ha) (I.ok.hd hc) hbig fun t p res c ns k g o hp hg hi hs hm hl => ?_
  have hlen : (ns.map V.int).length ≤ sizeLine := by
    rw [List.length_map, hl, sizeLine_eq]
    omega
  have hn : H p = none := I.hok.fresh hp
  have J : Inv X pins σ (upd H p (.lst (ns.map V.int))) { s with heap := t.heap, gens := t.gens, drawn := t.drawn, toks := t.toks } :=
    I.call (ch := []) (Un.laid k hp hn) (I.hok.laid k hp ⟨hlen, res.toList, c, vals_of_ints hi, hg⟩) (by rw [g]; exact I.bare)
      (fun _ z => nomatch z)
  have e : t = { s with heap := t.heap, gens := t.gens, drawn := t.drawn, toks := t.toks } := by
    cases t
    cases s
    cases o
    rfl
  rw [e]
  exact ⟨.ref p, _, J, rfl, q ns p hs hm hl hn⟩
end
end Ts
/-! TsZip: zip of two sequences, each a list or a tuple. -/
namespace Ts
open PySem PySem.Spec PyProof.Rows L2
/-- a list (false) or a tuple (true) that is read -/
def SqK (b : Bool) (K : PySem.W.Frag) (H : Hp) (a : Addr) (xs : List V) : Prop := if b = true then SqT K H a xs else SqL K H a xs
def IsK (b : Bool) (h : Heap) (a : Addr) (items : Array Value) : Prop := if b = true then h.IsTuple a items else h.IsList a items
def ItK (b : Bool) (h : Heap) (it a : Addr) (i : Nat) : Prop := if b = true then h.IsTupleIter it a i else h.IsListIter it a i
def obK (b : Bool) (a : Addr) : Obj := if b = true then { cls := .type "tuple_iterator", data := .fields #[.ref a, .int 0 0] } else { cls := .type "list_iterator", data := .fields #[.ref a, .int 0 0] }
section
variable {X : Cx} {pins : List (Addr × Obj)} {σ : L2.St} {H : Hp} {s : Shared} {a : Addr} {xs ys : List V} {b : Bool} {K : PySem.W.Frag}
theorem sqk_get (I : Inv X pins σ H s) (h : SqK b X.K H a xs) : ∃ its : List Value, Vals xs its ∧ IsK b s.heap a its.toArray := by
  cases b with
  | true =>
    obtain ⟨its, r, p, _⟩ := I.tuple h
    exact ⟨its, r, p⟩
  | false =>
    obtain ⟨its, r, p, _⟩ := I.list h
    exact ⟨its, r, p.isList⟩
theorem sqk_inj (I : Inv X pins σ H s) (h : SqK b X.K H a xs) (h2 : SqK b X.K H a ys) : xs = ys := by
  cases b with
  | true => exact I.tuple_inj h h2
  | false => exact I.list_inj h h2
theorem itk_at {h h' : Heap} {it : Addr} {i : Nat} (x : ItK b h it a i) (k : ∀ o, h.get? it = some o → h'.get? it = some o) : ItK b h' it a i := by
  cases b with
  | true => exact Heap.IsTupleIter.at x k
  | false => exact Heap.IsListIter.at x k
theorem itk_there {h : Heap} {it : Addr} {i : Nat} (x : ItK b h it a i) : ∃ o, h.get? it = some o ∧ ∀ v, o.data ≠ .cell v := by
  cases b with
  | true =>
    obtain ⟨o, e, _, d⟩ := (show h.IsTupleIter it a i from x)
    exact ⟨o, e, fun v q => by
      rw [d] at q
      cases q⟩
  | false =>
    obtain ⟨o, e, _, d⟩ := (show h.IsListIter it a i from x)
    exact ⟨o, e, fun v q => by
      rw [d] at q
      cases q⟩
theorem isk_lt {h : Heap} {items : Array Value} (x : IsK b h a items) : a < h.objs.size := by
  cases b with
  | true =>
    obtain ⟨o, e, _⟩ := (show h.IsTuple a items from x)
    exact Heap.lt_size e
  | false =>
    obtain ⟨o, e, _⟩ := (show h.IsList a items from x)
    exact Heap.lt_size e
theorem draws_k {prog : Program} {w : World} {A : Around} (b : Bool) (hh : A.handled = none) (it l : Addr) (hne : l ≠ it) (items : Array Value) :
    Draws prog w A it [it, l] items.size (fun i v => items[i]? = some v) (fun i h => ItK b h it l i ∧ IsK b h l items) := by
  cases b with
  | true => exact Draws.tuple hh it l hne items
  | false => exact Draws.list hh it l hne items
theorem begins_k (b : Bool) (l : Addr) (items : Array Value) : Begins (.ref l) (obK b l) fun h => IsK b h l items := by
  cases b with
  | true => exact begins_tuple l items
  | false => exact begins_list l items
theorem itk_new {h : Heap} {it l : Addr} (e : h.get? it = some (obK b l)) : ItK b h it l 0 := by
  cases b with
  | true => exact ⟨_, e, rfl, rfl⟩
  | false => exact ⟨_, e, rfl, rfl⟩
end
/-- the sequences at a and b as they stand at each turn, the items in new pairs -/
def ItzM (b1 b2 : Bool) (K : PySem.W.Frag) (a b : Addr) : It :=
  ⟨fun i H => ∃ (xs ys : List V) (x y : V), SqK b1 K H a xs ∧ SqK b2 K H b ys ∧ xs[i]? = some x ∧ ys[i]? = some y,
   fun i H v H' => ∃ T x y, v = .ref T ∧ H T = none ∧ H' = upd H T (.tup [x, y]) ∧ (∀ xs, SqK b1 K H a xs → xs[i]? = some x) ∧ ∀ ys, SqK b2 K H b ys → ys[i]? = some y,
   fun i H => ∃ xs ys : List V, SqK b1 K H a xs ∧ SqK b2 K H b ys ∧ xs.length = ys.length ∧ xs.length = i⟩
theorem turn_zipM {P : Program} {w : World} {K : PySem.W.Frag} {elts : List Expr} {kk : Nat} {tpos : Pos} {b1 b2 : Bool} {a b z TI TO i1 i2 : Addr}
    (S : ZipSep2 z TI TO i1 i2 [i1, a] [i2, b]) (ha : a ≠ i1) (hb : b ≠ i2) :
    Turn P w K (.Tuple elts kk tpos) (ItzM b1 b2 K a b) [z, TI, TO, i1, i2] z
      (fun i h => IsZip h z TI TO .none ∧ IsTupOf2 h TI (.ref i1) (.ref i2) ∧ (∃ x y, IsTupOf2 h TO x y) ∧ ItK b1 h i1 a i ∧ ItK b2 h i2 b i) where
  mem := by simp
  obj := fun i h st c hc => by
    obtain ⟨hz, hTI, ⟨x, y, hTO⟩, h1, h2⟩ := st
    have e1 : c = z ∨ c = TI ∨ c = TO ∨ c = i1 ∨ c = i2 := by simpa using hc
    rcases e1 with q | q | q | q | q <;> rw [q]
    · exact ⟨_, hz, fun v q => nomatch q⟩
    · exact ⟨_, hTI, fun v q => nomatch q⟩
    · exact ⟨_, hTO, fun v q => nomatch q⟩
    · exact itk_there h1
    · exact itk_there h2
  keep := fun i h h' st k => by
    obtain ⟨hz, hTI, ⟨x, y, hTO⟩, h1, h2⟩ := st
    exact ⟨k z (by simp) _ hz, k TI (by simp) _ hTI, ⟨x, y, k TO (by simp) _ hTO⟩,
      itk_at h1 fun o q => k i1 (by simp) o q, itk_at h2 fun o q => k i2 (by simp) o q⟩
  item := by
    intro X hP hw hK hc i pins s σ H E I hf st hg
    subst hP hw hK
    obtain ⟨hz, hTI, ⟨x0, y0, hTO⟩, h1, h2⟩ := st
    obtain ⟨xs, ys, x, y, hqx, hqy, hx, hy⟩ := hg
    obtain ⟨its, rv, p⟩ := sqk_get I hqx
    obtain ⟨its2, rv2, p2⟩ := sqk_get I hqy
    obtain ⟨u, hu, ru⟩ := rv.get hx
    obtain ⟨u2, hu2, ru2⟩ := rv2.get hy
    have hzl : z < s.heap.objs.size := Heap.lt_size hz
    have l1 : i < its.toArray.size := by
      rw [List.size_toArray]
      exact (List.getElem?_eq_some_iff.mp hu).1
    have l2 : i < its2.toArray.size := by
      rw [List.size_toArray]
      exact (List.getElem?_eq_some_iff.mp hu2).1
    refine wpAny_pyNext_zipD2_item S (draws_k b1 (A := X.A.in1) (I.ok.hd hc) i1 a ha its.toArray) (draws_k b2 (A := X.A.in1) (I.ok.hd hc) i2 b hb its2.toArray)
      hz hTI hTO ⟨h1, p⟩ ⟨h2, p2⟩ l1 l2 fun v1 v2 h' tk q1 q2 z1 TO1 st1 st2 hT hsz hk => ?_
    have e1 : v1 = u := by
      have t : its.toArray[i]? = some v1 := q1
      rw [List.getElem?_toArray, hu] at t
      exact (Option.some.inj t).symm
    have e2 : v2 = u2 := by
      have t : its2.toArray[i]? = some v2 := q2
      rw [List.getElem?_toArray, hu2] at t
      exact (Option.some.inj t).symm
    subst e1 e2
    refine ⟨_, rfl, wpAny_letOwnedTupleGo_zip (s := { s with heap := h', toks := tk }) z1 fun h'' z2 sb => ?_⟩
    have hT2 : h''.get? s.heap.objs.size = some { cls := .type "tuple", data := .seq #[v1, v2] } :=
      (sb.2 _ (Nat.ne_of_gt hzl)).trans hT
    have new : ObjOk X.prog X.w (upd H s.heap.objs.size (.tup [x, y])) h'' s.heap.objs.size (.tup [x, y]) :=
      ⟨by show 2 ≤ sizeLine; decide, [v1, v2], .cons ru (.cons ru2 .nil), ⟨_, hT2, rfl, _, rfl⟩⟩
    have out : ∀ c, c ∉ [z, TI, TO, i1, i2] → c ≠ z ∧ c ≠ TO ∧ c ≠ i1 ∧ c ≠ i2 := fun c hc => by
      simp only [List.mem_cons, List.not_mem_nil, or_false, not_or] at hc
      exact ⟨hc.1, hc.2.2.1, hc.2.2.2.1, hc.2.2.2.2⟩
    have I1 : Inv X pins σ (upd H s.heap.objs.size (.tup [x, y])) { s with heap := h'', toks := tk } :=
      I.turnedNew (ch := [z, TI, TO, i1, i2])
        (fun c o hc q => by
          obtain ⟨m1, m2, m3, m4⟩ := out c hc
          exact (sb.2 c m1).trans (hk c o m1 m2 m3 m4 q)) hf (Nat.le_refl _) new
    refine ⟨.ref s.heap.objs.size, _, I1, rfl, ⟨_, x, y, rfl, I.hok.fresh (Nat.le_refl _), rfl, fun l hl => by rw [sqk_inj I hl hqx]; exact hx, fun l hl => by rw [sqk_inj I hl hqy]; exact hy⟩,
      ⟨z2, (sb.2 _ S.TIz).trans (hk _ _ S.TIz S.TITO S.TIi1 S.TIi2 hTI), ⟨v1, v2, (sb.2 _ S.TOz).trans TO1⟩, itk_at st1.1 fun o q => (sb.2 _ (Ne.symm S.zi1)).trans q, itk_at st2.1 fun o q => (sb.2 _ (Ne.symm S.zi2)).trans q⟩, fun c hcm => ?_⟩
    have hlt : c < s.heap.objs.size := by
      have e3 : c = z ∨ c = TI ∨ c = TO ∨ c = i1 ∨ c = i2 := by simpa using hcm
      rcases e3 with q | q | q | q | q <;> rw [q]
      · exact hzl
      · exact Heap.lt_size hTI
      · exact Heap.lt_size hTO
      · obtain ⟨_, e4, _⟩ := itk_there h1
        exact Heap.lt_size e4
      · obtain ⟨_, e4, _⟩ := itk_there h2
        exact Heap.lt_size e4
    rw [upd_ne (Nat.ne_of_lt hlt)]
    exact (hf c hcm).1
  done := by
    intro X hP hw hK hc i pins s σ H E I hf st hg
    subst hP hw hK
    obtain ⟨hz, hTI, ⟨x0, y0, hTO⟩, h1, h2⟩ := st
    obtain ⟨xs, ys, hqx, hqy, hel, hei⟩ := hg
    obtain ⟨its, rv, p⟩ := sqk_get I hqx
    obtain ⟨its2, rv2, p2⟩ := sqk_get I hqy
    have l1 := rv.length
    have l2 := rv2.length
    have n1 : its.toArray.size = i := by
      rw [List.size_toArray]
      omega
    have n2 : its2.toArray.size = i := by
      rw [List.size_toArray]
      omega
    exact wpAny_pyNext_zipD2_end S (draws_k b1 (A := X.A.in1) (I.ok.hd hc) i1 a ha its.toArray) (draws_k b2 (A := X.A.in1) (I.ok.hd hc) i2 b hb its2.toArray)
      hz hTI hTO ⟨h1, p⟩ ⟨h2, p2⟩ (by omega) (by omega) (.inl n1.symm) fun h' tk hk =>
        ⟨rfl, I.turnedL (t' := tk) (ch := [z, TI, TO, i1, i2])
          (fun c o hc q => by
            simp only [List.mem_cons, List.not_mem_nil, or_false, not_or] at hc
            exact hk c o hc.1 hc.2.2.1 hc.2.2.2.1 hc.2.2.2.2 q) hf⟩
  self := fun A i s Q E st h => wpAny_pyIter_zip st.1 h
def iZipM (b1 b2 : Bool) (K : PySem.W.Frag) (ta : TA) : TI := fun σ H R => ta σ H fun vs H1 => ∃ a b xs ys, vs = [.ref a, .ref b] ∧ SqK b1 K H1 a xs ∧ SqK b2 K H1 b ys ∧ R (ItzM b1 b2 K a b) H1
theorem pi_zipM {X : Cx} {e e2 : Expr} {ta : TA} {p pos tpos : Pos} {elts : List Expr} {kk : Nat} (b1 b2 : Bool) (K : PySem.W.Frag) (hg : Gl X "zip") (hm : X.mg "zip" = none) (ha : PA X [e, e2] ta) (hK : X.K = K := by rfl)
    (hs : starEach [e, e2] X.env = (false, eval e X.env) :: starEach [e2] X.env := by rfl) (hpl : (backTo pos (starEach [e2] X.env)).any (·.1) = false := by rfl) :
    PI X (.Tuple elts kk tpos) (.Call (.Name "zip" p) [e, e2] [] pos) (iZipM b1 b2 K ta) := by
  subst hK
  refine ⟨fun pins s σ H R I h => ?_⟩
  refine Call_ (ld_blt I hg hm PyProof.Rows.boot_zip (PyProof.Rows.callWith_type1
    (thn (ha.run pos pins s σ H _ I h) fun us s1 ⟨vs, H1, I1, r1, q1⟩ => ?_) hs hpl))
  obtain ⟨a, b, xs, ys, ex, hqx, hqy, q⟩ := q1
  subst ex
  cases r1 with
  | cons r rr =>
    cases rr with
    | cons r2 rr =>
      cases rr
      cases r
      cases r2
      obtain ⟨its, rv, p1⟩ := sqk_get I1 hqx
      obtain ⟨its2, rv2, p2⟩ := sqk_get I1 hqy
      have fresh5 : ∀ c, c ∈ [s1.heap.objs.size + 4, s1.heap.objs.size + 2, s1.heap.objs.size + 3, s1.heap.objs.size, s1.heap.objs.size + 1] → FpOk X pins H1 c := fun c hcm => by
        have hle : s1.heap.objs.size ≤ c := by
          simp only [List.mem_cons, List.not_mem_nil, or_false] at hcm
          omega
        exact I1.fpOk hle (I1.hok.fresh hle)
      have la := isk_lt p1
      have lb := isk_lt p2
      refine zip_begins2 (begins_k b1 a its.toArray) (begins_k b2 b its2.toArray) p1 p2 fun h' hz hTI hTO h1 h2 hsz hk => wpAny_pyIter_zip hz ?_
      have I2 : Inv X pins σ H1 { s1 with heap := h' } := I1.kept (t' := s1.toks) hk
      have S := zip_sep2 (N := s1.heap.objs.size) (fp1 := [a]) (fp2 := [b]) (fun c hc => by rw [List.mem_singleton.mp hc]; exact la) (fun c hc => by rw [List.mem_singleton.mp hc]; exact lb)
      exact ⟨s1.heap.objs.size + 4, _, _, _, H1, rfl, I2, turn_zipM S (Nat.ne_of_lt la) (Nat.ne_of_lt (Nat.lt_succ_of_lt lb)), ⟨hz, hTI, ⟨_, _, hTO⟩, itk_new h1, itk_new h2⟩, fresh5, q⟩
theorem walk_zipM {K : PySem.W.Frag} {b1 b2 : Bool} {a b : Addr} {xs ys : List V} (e : xs.length = ys.length) : Walk (ItzM b1 b2 K a b) xs.length (fun H => SqK b1 K H a xs ∧ SqK b2 K H b ys) (YPair (fun i => xs[i]?) (fun i => ys[i]?)) where
  goes := fun i H hi h => ⟨xs, ys, xs[i], ys[i], h.1, h.2, by simp [hi], by simp [← e, hi]⟩
  stops := fun H h => ⟨xs, ys, h.1, h.2, e, rfl⟩
  yields := fun i H v H' _ h y => by
    obtain ⟨T, x, z, ev, hT, eH, hx, hz⟩ := y
    exact ⟨T, x, z, ev, hT, eH, hx xs h.1, hz ys h.2⟩
theorem r_zipM {K : PySem.W.Frag} {b1 b2 : Bool} {t : TA} {σ : L2.St} {H : Hp} {R : It → Hp → Prop} (h : t σ H fun vs H1 => ∃ a b xs ys, vs = [.ref a, .ref b] ∧ SqK b1 K H1 a xs ∧ SqK b2 K H1 b ys ∧ R (ItzM b1 b2 K a b) H1) : iZipM b1 b2 K t σ H R := h
end Ts
/-! TsRepr: how long the repr of ints, lists and tuples is. -/
namespace Ts
open PySem PySem.Spec PyProof.Rows L2
mutual
/-- data whose repr is short for each item: numbers below 10^31, truths, None -/
def okR : PyData → Bool
  | .none => true
  | .bool _ => true
  | .int i => decide (i.natAbs < 10 ^ 31)
  | .str _ => false
  | .list xs => okRs xs
  | .tuple xs => okRs xs
  | .dict _ => false
def okRs : List PyData → Bool
  | [] => true
  | x :: xs => okR x && okRs xs
end
mutual
/-- at most so many signs -/
def wtR : PyData → Nat
  | .none => 4
  | .bool _ => 5
  | .int _ => 32
  | .str _ => 0
  | .list xs => wtRs xs + 4
  | .tuple xs => wtRs xs + 4
  | .dict _ => 0
def wtRs : List PyData → Nat
  | [] => 0
  | x :: xs => (wtR x + 2) + wtRs xs
end
theorem log_lt {i : Int} (h : i.natAbs < 10 ^ 31) : i.natAbs.log2 < 1920 := by
  by_cases e : i.natAbs = 0
  · rw [e]
    decide
  · refine (Nat.log2_lt e).mpr (Nat.lt_trans h ?_)
    exact Nat.lt_of_lt_of_le (show (10 : Nat) ^ 31 < 2 ^ 128 by decide) (Nat.pow_le_pow_right (by decide) (by decide))
theorem text_up : ∀ (ts : List Str) (k : Nat) (acc : Str), (textFrom k acc ts).length ≤ acc.length + piled ts
  | [], k, acc => by
    show acc.length ≤ _
    omega
  | t :: ts, k, acc => by
    have ih := text_up ts (k + 1) (acc ++ (if k > 0 then ", " else "" : String) ++ t)
    have e : (acc ++ (if k > 0 then ", " else "" : String) ++ t).length ≤ acc.length + 2 + t.length := by
      rw [strLen_append, strLen_append]
      have : (((if k > 0 then ", " else "" : String) : Str)).length ≤ 2 := by split <;> decide
      omega
    rw [piled_cons]
    show (textFrom (k + 1) _ ts).length ≤ _
    omega
theorem list_up (ts : List Str) : (listText ts).length ≤ piled ts + 4 := by
  unfold listText
  rw [strLen_append]
  have := text_up ts 0 "["
  have e1 : ((("[" : String) : Str)).length = 1 := rfl
  have e2 : ((("]" : String) : Str)).length = 1 := rfl
  omega
theorem tuple_up (ts : List Str) : (tupleText ts).length ≤ piled ts + 4 := by
  unfold tupleText
  rw [strLen_append, strLen_append]
  have e1 : ((("(" : String) : Str)).length = 1 := rfl
  have e3 : (((if ts.length == 1 then ",)" else ")" : String) : Str)).length ≤ 2 := by split <;> decide
  by_cases h : ts = []
  · subst h
    have e4 : (Str.join ", " ([] : List Str)).length = 0 := rfl
    omega
  · have := join_length_add ts h
    omega
mutual
theorem shown_up : ∀ d : PyData, okR d = true → d.shown.length ≤ wtR d
  | .none, _ => by
    simp only [PyData.shown, wtR]
    decide
  | .bool b, _ => by
    simp only [PyData.shown, wtR]
    cases b <;> decide
  | .int i, h => by
    simp only [okR, decide_eq_true_eq] at h
    simp only [PyData.shown, wtR]
    show (Str.ofString (toString i)).length ≤ 32
    rw [PySem.ofString_length]
    exact int_text_length_le10 (by decide) h
  | .str _, h => by simp [okR] at h
  | .dict _, h => by simp [okR] at h
  | .list xs, h => by
    simp only [okR] at h
    simp only [PyData.shown, wtR]
    have := list_up (PyData.shownAll xs)
    have := shown_ups xs h
    omega
  | .tuple xs, h => by
    simp only [okR] at h
    simp only [PyData.shown, wtR]
    have := tuple_up (PyData.shownAll xs)
    have := shown_ups xs h
    omega
theorem shown_ups : ∀ ds : List PyData, okRs ds = true → piled (PyData.shownAll ds) ≤ wtRs ds
  | [], _ => Nat.le_refl _
  | d :: ds, h => by
    simp only [okRs, Bool.and_eq_true] at h
    have h1 := shown_up d h.1
    have h2 := shown_ups ds h.2
    simp only [PyData.shownAll, wtRs]
    rw [piled_cons]
    omega
end
mutual
theorem showable_of : ∀ d : PyData, okR d = true → d.showable = true
  | .none, _ => rfl
  | .bool b, _ => rfl
  | .int i, h => by
    simp only [okR, decide_eq_true_eq] at h
    simp only [PyData.showable, decide_eq_true_eq]
    exact log_lt h
  | .str _, h => by simp [okR] at h
  | .dict _, h => by simp [okR] at h
  | .list xs, h => by
    simp only [okR] at h
    simp only [PyData.showable]
    exact showables_of xs h
  | .tuple xs, h => by
    simp only [okR] at h
    simp only [PyData.showable]
    exact showables_of xs h
theorem showables_of : ∀ ds : List PyData, okRs ds = true → PyData.showableAll ds = true
  | [], _ => rfl
  | d :: ds, h => by
    simp only [okRs, Bool.and_eq_true] at h
    simp only [PyData.showableAll, Bool.and_eq_true]
    exact ⟨showable_of d h.1, showables_of ds h.2⟩
end
/-- repr of such data -/
theorem r_rep {K : PySem.W.Frag} {H : Hp} {Q : VK} {x : V} {d : PyData} (hd : Dp K H x d) (ho : okR d = true) (hw : wtR d ≤ 16000000) (hdep : d.depth ≤ 50) (k : Q (.str d.shown) H) : rRepD K [x] H Q := by
  refine ⟨x, d, rfl, hd, showable_of d ho, ?_, hdep, k⟩
  have := shown_up d ho
  rw [sizeLine_eq]
  omega
theorem okR_ints (ns : List Int) (h : ∀ x ∈ ns, x.natAbs < 10 ^ 31) : okRs (ns.map PyData.int) = true := by
  induction ns with
  | nil => rfl
  | cons n ns ih =>
    show (decide (n.natAbs < 10 ^ 31) && okRs (ns.map PyData.int)) = true
    rw [ih fun x hx => h x (List.mem_cons_of_mem _ hx), decide_eq_true (h n List.mem_cons_self)]
    rfl
theorem wtR_ints (ns : List Int) : wtRs (ns.map PyData.int) = 34 * ns.length := by
  induction ns with
  | nil => rfl
  | cons n ns ih =>
    show (32 + 2) + wtRs (ns.map PyData.int) = 34 * (ns.length + 1)
    rw [ih]
    omega
/-- x is not y, truths -/
def rNotB : R2 := fun x y H Q => ∃ a b, x = .bl a ∧ y = .bl b ∧ Q (.bl (!decide (a = b))) H
theorem op_notB {X : Cx} : OpR X (compareOp .IsNot) rNotB := by
  intro pins s σ H x y v u Q I rx ry h
  obtain ⟨a, b, rfl, rfl, q⟩ := h
  cases rx
  cases ry
  refine wpAny_pure (M := model X.prog X.w) ?_
  refine ⟨.bl (!decide (a = b)), H, I, ?_, q⟩
  cases a <;> cases b <;> rfl
end Ts
/-! TsMore: (x,) * n, n from 0. -/
namespace Ts
open PySem PySem.Spec PyProof.Rows L2
open HT in
theorem tuple_mulNone (l : Addr) (items : Array Value) (n : Nat) (dd : Option Addr) (sl : Array (Option Value)) (u : Tok) (hz : items.isEmpty = false) :
    Meets (Builtin.«tuple.__mul__» ⟨[.ref l, .int 0 u], []⟩) (fun _ R s => s.heap.get? l = some { cls := .type "tuple", dict := dd, data := .seq items n, slots := sl } ∧
      R (.ok (.ret (Value.ref s.heap.objs.size))) { s with heap := s.heap.push { cls := Value.type "tuple", data := Data.seq #[] }, toks := s.toks }) :=
  .of_wp fun prog w A R s h => by
    obtain ⟨hp, g, d, tk, os⟩ := s
    obtain ⟨hl, h⟩ := h
    have f1 := AutoSeq1.idx_int
    have c0 : (decide ((0 : Int) < -(2 ^ 63)) || decide ((0 : Int) ≥ 2 ^ 63)) = false := by decide
    have c1 : (items.isEmpty || (0 : Int) == 1) = false := by rw [hz]; rfl
    have c2 : (decide ((0 : Int) ≤ 0) || items.isEmpty) = true := by rfl
    wp_walk using AutoSeq1.wpAny_loadPart' hl
    repeat (first
      | (refine wpAny_ite_false (decide_eq_false (by rw [c0]; exact Bool.false_ne_true)) ?_; wp_walk using AutoSeq1.wpAny_loadPart' hl)
      | (refine wpAny_ite_false (decide_eq_false (by rw [c1]; exact Bool.false_ne_true)) ?_; wp_walk using AutoSeq1.wpAny_loadPart' hl)
      | (refine wpAny_ite_true (decide_eq_true c2) ?_; wp_walk using AutoSeq1.wpAny_loadPart' hl))
    exact ⟨_, rfl, h⟩
/-- (x,) * n, n from 0 -/
def rTupRep (K : PySem.W.Frag) : R2 := fun x y H Q => ∃ (l : Addr) (n : Nat) (v : V), x = .ref l ∧ y = .int (n : Int) ∧ SqT K H l [v] ∧ n ≤ 1000 ∧
  ∀ q H', Ex H H' → SqT K H' q (List.replicate n v) → Q (.ref q) H'
theorem flat_one (n : Nat) (x : V) : (List.replicate n [x]).flatten = List.replicate n x := by
  induction n with
  | zero => rfl
  | succ n ih =>
    rw [List.replicate_succ, List.flatten_cons, ih, List.replicate_succ]
    rfl
theorem op_tupRep {X : Cx} : OpR X (binaryOp .Mult) (rTupRep X.K) := by
  intro pins s σ H x y v u Q I rx ry h
  obtain ⟨l, k, z, rfl, rfl, hT, h1, q⟩ := h
  by_cases hk : k = 0
  · subst hk
    cases rx
    obtain ⟨t, rfl⟩ := ry
    obtain ⟨its, r, ⟨⟨cls, dd, data, sl⟩, ho, hc, n, hd⟩, hs⟩ := I.tuple hT
    simp only at hc hd
    subst hc hd
    have hi : its.toArray.isEmpty = false := by
      cases its with
      | nil => cases r
      | cons a b => rfl
    refine wpAny_binaryOp_repeat_ref (T := "tuple") (U := "int") (by decide) ⟨_, ho, rfl⟩ (fun t1 => typeIs_int t1 0 t)
      noFill_tuple_mul F.fills_int_mul F.slot_int_rmul repeat_tuple F.slot_int_index.lookup
      (call_meets F.slot_int_rmul (typeIs_int s 0 t) F.entry_int_rmul (F.args_int_rmul_2 _ _)
        (int_rmul_tuple 0 t l its.toArray n dd sl)
        ⟨ho, rfl, ⟨_, ho, rfl⟩, call_meets F.slot_tuple_mul ⟨_, ho, rfl⟩ F.entry_tuple_mul (F.args_tuple_mul_2 _ _)
          (tuple_mulNone l its.toArray n dd sl t hi) ⟨ho, ?_⟩⟩)
    have hn : H s.heap.objs.size = none := I.hok.fresh (Nat.le_refl _)
    exact ⟨.ref s.heap.objs.size, _, I.laid (t' := s.toks) (o := .tup []) (fun b ob q => Heap.get?_push_of_some _ q) (Nat.le_refl _) ⟨Nat.zero_le _, [], .nil, IsTup.new _ _⟩, rfl, q _ _ (ex_new hn) (SqT.of upd_same)⟩
  · refine op_tupMul pins s σ H _ _ v u Q I rx ry ⟨l, k, [z], rfl, rfl, hT, by simp, by omega, by omega, by show 1 ≤ 1000; decide, fun e => ?_, fun p hp => ?_⟩
    · have e1 : k = 1 := by omega
      subst e1
      exact q l H (Evl.Ex.refl H) hT
    · refine q p _ (ex_new hp) (SqT.of ?_)
      rw [upd_same, Int.toNat_natCast, flat_one]
theorem mulN {X : Cx} (K : PySem.W.Frag) (hK : X.K = K := by rfl) : OpR X (binaryOp .Mult) (rTupRep K) := hK ▸ op_tupRep
theorem r_rep0 {K : PySem.W.Frag} {H : Hp} {Q : VK} {z : Addr} {n : Nat} {x : V} (hz : SqT K H z [x]) (h2 : n ≤ 1000) (k : ∀ q H', Ex H H' → SqT K H' q (List.replicate n x) → Q (.ref q) H') : rTupRep K (.ref z) (.int (n : Int)) H Q :=
  ⟨z, n, x, rfl, rfl, hz, h2, k⟩
theorem lstK {X : Cx} (K : PySem.W.Frag) {k n : Nat} {ts : List Expr} {u : TGs} {pos : Pos} (hc : X.calm = true) (h : PGs X ts u) (hn : (assignEach ts X.env).length = n := by rfl) (hst : (assignEach ts X.env).findIdx? (·.1) = none := by rfl) (hK : X.K = K := by rfl) :
    PG X (.Tuple ts k pos) (gLst K n u) := hK ▸ pg_lst hc h hn hst
theorem r_four {K : PySem.W.Frag} {T : Addr} {i j l m : Nat} {x y z t : V} {σ : L2.St} {H : Hp} {R : L2.St → Hp → Prop} (hs : SqL K H T [x, y, z, t]) (k : R ((((σ.set i (some x)).set j (some y)).set l (some z)).set m (some t)) H) :
    gLst K 4 (gCons (gName i) (gCons (gName j) (gCons (gName l) (gCons (gName m) gNil)))) (.ref T) σ H R :=
  ⟨T, [x, y, z, t], rfl, hs, rfl, x, [y, z, t], rfl, y, [z, t], rfl, z, [t], rfl, t, [], rfl, rfl, k⟩
end Ts
namespace Ts
open PySem PySem.Spec PyProof.Rows L2
/-- t.index(y), flat items, the first place -/
def rIndexT (K : PySem.W.Frag) : V → List V → Hp → VK → Prop := fun x xs H Q => ∃ (a : Addr) (ys : List V) (y : V) (j : Nat) (z : V), x = V.ref a ∧ xs = [y] ∧ SqT K H a ys ∧ flatV y = true ∧ ys.all flatV = true ∧ ys[j]? = some z ∧ eqV z y = true ∧
  (∀ (m : Nat) (q : V), m < j → ys[m]? = some q → eqV q y = false) ∧ Q (.int (j : Nat)) H
theorem mt_indexT {X : Cx} : MtR X "tuple.index" (rIndexT X.K) := by
  intro pins s σ H x xs v us Q I rx rs h
  obtain ⟨p, ys, y, j, z, rfl, rfl, hq, fy, fys, hz, hzj, hno, q⟩ := h
  cases rx
  obtain ⟨uy, rfl, ry⟩ := vals1 rs
  obtain ⟨its, rv, ⟨⟨cls, dd, dt, sl⟩, ho, hc, n, hd⟩, hlen⟩ := I.tuple hq
  simp only at hc hd
  subst hc hd
  obtain ⟨u, hu, ru⟩ := rv.get hz
  obtain ⟨hjl, hje⟩ := List.getElem?_eq_some_iff.mp hu
  have hvl := rv.length
  have hj : j < its.toArray.size := by simpa using hjl
  refine call_meets PySem.F.slot_tuple_index ⟨_, ho, rfl⟩ PySem.F.entry_tuple_index (PySem.F.args_tuple_index_2 _ _)
    (TI.tuple_indexAt p its.toArray n dd sl uy (eqU y) j hj ?_ ?_)
    ⟨ho, fun w hw => mem_eqAt ry fy rv fys w (by simpa using hw), ⟨.int (j : Nat), H, I.tok _, ⟨_, rfl⟩, q⟩⟩
  · have e1 : its.toArray[j] = u := by simpa using hje
    rw [e1, eqU_of ru (flat_at fys hz)]
    exact hzj
  · intro m hm hmj
    have hmy : m < ys.length := by
      have : m < its.length := by simpa using hm
      omega
    obtain ⟨u2, hu2, ru2⟩ := rv.get (List.getElem?_eq_getElem hmy)
    obtain ⟨_, hme⟩ := List.getElem?_eq_some_iff.mp hu2
    have e1 : its.toArray[m] = u2 := by simpa using hme
    rw [e1, eqU_of ru2 (flat_at fys (List.getElem?_eq_getElem hmy))]
    exact hno m _ hmj (List.getElem?_eq_getElem hmy)
theorem mIndexT {X : Cx} (K : PySem.W.Frag) (hK : X.K = K := by rfl) : MtR X "tuple.index" (rIndexT K) := hK ▸ mt_indexT
theorem tyv_tup {K : PySem.W.Frag} {H : Hp} {p : Addr} (h : tyV K "tuple" (.ref p) H) : tyV K "tuple" (.ref p) H := h
end Ts
/-! TsFrz: tuples whose object is known whole (no dict of their own): made by tuple(a list), asked by a method. -/
namespace Ts
open PySem PySem.Spec PyProof.Rows L2
/-- the tuple at a has no dict of its own -/
def PlT (H : Hp) (a : Addr) : Prop := ∃ o xs, H a = some (.frz o (.tup xs)) ∧ o.dict = none
theorem PlT.ex {H H' : Hp} {a : Addr} (h : PlT H a) (e : Ex H H') : PlT H' a := by
  obtain ⟨o, xs, h1, h2⟩ := h
  exact ⟨o, xs, e _ _ h1, h2⟩
theorem PlT.kp {H H' : Hp} {a s : Addr} {u : HO} (h : PlT H a) (k : Kp [s] H H') (hs : H s = some u) (hu : ∀ o xs, u ≠ .frz o xs) : PlT H' a := by
  obtain ⟨o, xs, h1, h2⟩ := h
  refine ⟨o, xs, k a _ h1 fun m => ?_, h2⟩
  rw [List.mem_singleton.mp m, hs] at h1
  exact hu _ _ (Option.some.inj h1)
/-- tuple(a list), the new object known -/
def rTupF (K : PySem.W.Frag) : List V → Hp → VK → Prop := fun xs H Q => ∃ p ys, xs = [.ref p] ∧ SqL K H p ys ∧ ∀ l o, H l = none → o.dict = none → Q (.ref l) (upd H l (.frz o (.tup ys)))
theorem cr_tupF {X : Cx} : CallR X (.type "tuple") (rTupF X.K) := by
  intro pins s σ H xs us Q I r h
  obtain ⟨p, ys, rfl, hq, q⟩ := h
  obtain ⟨u, rfl, rx⟩ := vals1 r
  cases rx
  obtain ⟨its, r1, pl, hz⟩ := I.list hq
  have hlen := r1.length
  refine call_tuple_list pl.isList (fun h1 kp => ?_) (by
    rw [List.size_toArray]
    omega)
  have I1 : Inv X pins σ H { s with heap := h1 } := I.kept (t' := s.toks) kp
  let ob : Obj := { cls := .type "tuple", data := .seq its.toArray }
  have I2 : Inv X pins σ (upd H h1.objs.size (.frz ob (.tup ys))) { s with heap := h1.push ob } :=
    I1.laid (t' := s.toks) (fun b o e => Heap.get?_push_of_some _ e) (Nat.le_refl _)
      (show ObjOk X.prog X.w _ _ _ (.frz ob (.tup ys)) from ⟨Heap.get?_push_size _ rfl, hz, its, r1, IsTup.new _ _⟩)
  exact ⟨.ref h1.objs.size, _, I2, rfl, q _ ob (I1.hok.fresh (Nat.le_refl _)) rfl⟩
theorem cTupF {X : Cx} (K : PySem.W.Frag) (hK : X.K = K := by rfl) : CallR X (.type "tuple") (rTupF K) := hK ▸ cr_tupF
/-- t.m(..), t such a tuple -/
def tBMF (r : V → List V → Hp → VK → Prop) (to : TE) (t : TA) : TE := fun σ H Q => to σ H fun x H1 => (∃ p, x = .ref p ∧ PlT H1 p) ∧ t σ H1 fun xs H2 => r x xs H2 Q
section
variable {X : Cx} {o e : Expr} {es : List Expr} {to : TE} {t : TA} {name : Str} {apos cpos : Pos} {id : String} {r : V → List V → Hp → VK → Prop}
theorem pe_bmF (pa : PlainAttrs "tuple") (slot : Slot "tuple" name id) (hty : typeOf (.builtin id) = pure (.type "method_descriptor")) (hm : MtR X id r) (ho : PE X o to) (ha : PA X (e :: es) t)
    (hbase : attributeBase o name X.env (eval o X.env) = eval o X.env := by rfl)
    (hfew : ((backTo cpos (starEach (e :: es) X.env)).all (fun x => !x.1) &&
      (backToKw cpos (keywordEach [] X.env)).all (fun x => x.1.isSome) &&
      decide ((e :: es).length + ([] : List Keyword).length + (if ([] : List Keyword).isEmpty then 0 else 1) < 30)) = true := by rfl)
    (hline : (apos.endLine == cpos.line) = true := by rfl)
    (hs : starEach (e :: es) X.env = (false, eval e X.env) :: starEach es X.env := by rfl)
    (hplain : (backTo cpos (starEach es X.env)).any (·.1) = false := by rfl) :
    PE X (.Call (.Attribute o name apos) (e :: es) [] cpos) (tBMF r to t) := by
  refine ⟨fun pins s σ H Q I h => ?_⟩
  refine wpAny_Call_method_late hbase hfew hline rfl (thn (ho.run pins s σ H _ I h) fun v s1 ⟨x, H1, I1, r1, ty, q1⟩ => ?_)
  obtain ⟨p, rfl, ob, xs, hp, hd⟩ := ty
  cases r1
  obtain ⟨hget, _, its, _, htup⟩ := I1.hok p _ hp
  obtain ⟨ob2, hg2, hc2, _⟩ := htup
  refine ⟨"tuple", id, pa, slot, hty, ⟨ob2, hg2, hc2⟩, fun a ea => ?_, ?_⟩
  · cases ea
    exact ⟨ob, hget, hd⟩
  have hA := ha.run cpos pins s1 σ H1 _ I1 q1
  rw [hs] at hA ⊢
  refine Calls.callWith_builtin (by
    show (false || (backTo cpos (starEach es X.env)).any (·.1)) = false
    rw [hplain]
    rfl) (Calls.evalArgs_plain ?_)
  exact thn hA fun us s2 ⟨vs, H2, I2, r2, q2⟩ => hm pins s2 σ H2 (.ref p) vs (.ref p) us Q I2 rfl r2 q2
end
theorem r_bmF {K : PySem.W.Frag} {r : V → List V → Hp → VK → Prop} {to : TE} {t : TA} {σ : L2.St} {H : Hp} {Q : VK} (h : to σ H fun x H1 => (∃ p, x = .ref p ∧ PlT H1 p) ∧ t σ H1 fun xs H2 => r x xs H2 Q) : tBMF r to t σ H Q := h
theorem sqt_frz {K : PySem.W.Frag} {H : Hp} {a : Addr} {xs : List V} {o : Obj} (h : H a = some (.frz o (.tup xs))) : SqT K H a xs := .inl (.inr ⟨o, h⟩)
end Ts
/-! TsCat: tuple + tuple from nothing, comprehensions over a zip of a list and a tuple. -/
namespace Ts
open PySem PySem.Spec PyProof.Rows L2
theorem ctA {X : Cx} (K : PySem.W.Frag) (hK : X.K = K := by rfl) : OpR X (binaryOp .Add) (rCatA K) := hK ▸ op_catA
theorem r_catA {K : PySem.W.Frag} {H : Hp} {Q : VK} {a b : Addr} {xs : List V} {v : V} (hx : SqT K H a xs) (hb : SqT K H b [v]) (hn : xs.length ≤ 1000) (k : ∀ q H', Ex H H' → SqT K H' q (xs ++ [v]) → Q (.ref q) H') : rCatA K (.ref a) (.ref b) H Q := by
  refine ⟨a, b, xs, [v], rfl, rfl, hx, hb, Nat.le_of_lt (small_line (by show xs.length + 1 ≤ 1000000; omega)), fun e => ?_, fun _ e => (nomatch e), fun _ _ p hp => k p _ (ex_new hp) (SqT.of upd_same)⟩
  subst e
  exact k b H (Evl.Ex.refl H) hb
theorem r_bmG {r : V → List V → Hp → VK → Prop} {to : TE} {t : TA} {σ : L2.St} {H : Hp} {Q : VK} (h : to σ H fun x H1 => (∃ p, x = .ref p ∧ PlT H1 p) ∧ t σ H1 fun xs H2 => r x xs H2 Q) : tBMF r to t σ H Q := h
/-- over a zip of a list or a tuple with another, to a map -/
theorem lcZM_map {α : Type} {K : PySem.W.Frag} {σ : L2.St} {H : Hp} {Q : VK} {te : TE} {vs : List Nat} {a b : Addr} {xs ys : List V} {zs : List α} (g : α → V) {ta : TA} {i1 i2 : Nat} {b1 b2 : Bool}
    (h : ∀ R : List V → Hp → Prop, R [.ref a, .ref b] H → ta σ H R) (hx : SqK b1 K H a xs) (hy : SqK b2 K H b ys) (he : xs.length = ys.length) (hl : xs.length = zs.length) (hn : xs.length ≤ 1000000)
    (hw : ∀ x y, wipe (((wipe σ vs).set i1 (some x)).set i2 (some y)) vs = wipe σ vs) (hsx : ∀ H', Ex H H' → SqK b1 K H' a xs) (hsy : ∀ H', Ex H H' → SqK b2 K H' b ys)
    (ht : ∀ (i : Nat) (x y : V) (z : α), xs[i]? = some x → ys[i]? = some y → zs[i]? = some z → ∀ H', Ex H H' → ∀ R : VK, (∀ H2, Ex H' H2 → R (g z) H2) → te (((wipe σ vs).set i1 (some x)).set i2 (some y)) H' R)
    (k : ∀ D H', H D = none → Ex H H' → H' D = some (.lst (zs.map g)) → Q (.ref D) H') : tLc (iZipM b1 b2 K ta) (gTup K 2 (gCons (gName i1) (gCons (gName i2) gNil))) tYes te vs σ H Q := by
  have hA := hl ▸ acc_map zs g
  refine h _ ⟨a, b, xs, ys, rfl, hx, hy, fun D hD => ?_⟩
  refine lc_it (walk_zipM (K := K) (b1 := b1) (b2 := b2) (a := a) (b := b) he) (fun i H' => Ex H H' ∧ H' D = some (.lst ((zs.take i).map g))) ⟨ex_new hD, by rw [upd_same]; rfl⟩ (fun i H' _ p => ⟨hsx _ p.1, hsy _ p.1⟩) (fun i z H' H2 hi p y => ?_) (fun H' p => k D H' hD p.1 (by rw [p.2, hl, List.take_length]))
  obtain ⟨T, x, u, ev, hT, eH, hxi, hyi⟩ := y
  subst ev eH
  refine ⟨T, [x, u], rfl, SqT.of upd_same, rfl, x, [u], rfl, u, [], rfl, rfl, hw x u, ?_⟩
  have hiz : i < zs.length := by
    rw [← hl]
    exact hi
  refine lc_turn (f := fun _ => true) hA hn hi hD (ex_newT p.1 hT) (ex_new hT _ _ p.2) (yes_turn fun H' e2 R q => ht i x u _ hxi hyi (List.getElem?_eq_getElem hiz) H' e2 R fun H3 e3 => ?_) (fun i H' => Ex H H' ∧ H' D = some (.lst ((zs.take i).map g))) fun H2 a b => ⟨a, b⟩
  have z := q H3 e3
  rw [List.getElem?_eq_getElem hiz] at z
  exact z
end Ts
/-! TsTry: try: .. except X as n: .. and what stands behind it, the error's object still known there. -/
namespace Ts
open PySem PySem.Spec PyProof.Rows L2
/-- the context in which the objects at pn are held -/
abbrev pnd (X : Cx) (pn : List (Addr × Obj)) : Cx := X.tr pn X.xe
/-- an error's object, tracked: it is read, never written -/
def ErrO (K : PySem.W.Frag) (n : Str) (a : Addr) : HO := .ext fun h => ∃ (oe : Obj) (vs : Array Value), h.get? a = some oe ∧ Zc (.ref (He.ga K n)) none oe ∧ oe.data = .fields vs
def wAsV (K : PySem.W.Frag) (c : Value) (i : Nat) (ts : Addr → Value → Option Addr → TS) (u : TS) (Wout : WX) (D : Ends) : WX :=
  fun cls d σ H => ∃ b, PySem.W.exmOne K cls c = some b ∧
    (b = true → ∀ a, H a = none → i < σ.length → ts a cls d
      { nx := fun σ1 H1 => ∃ n, cls = .ref (He.ga K n) ∧ d = none ∧ u D (σ1.set i none) (upd H1 a (ErrO K n a))
        rt := D.rt
        bk := fun σ1 H1 => D.bk (σ1.set i none) H1
        ct := fun σ1 H1 => D.ct (σ1.set i none) H1 } (σ.set i (some (.ref a))) H) ∧
    (b = false → Wout cls d σ H)
section
variable {X : Cx} {pins pn : List (Addr × Obj)} {σ : L2.St} {H : Hp} {s : Shared} {a : Addr} {q : Addr × Obj}
theorem to_pnd (I : Inv (X.suite a pn) [] σ H s) (ok : X.Ok) : Inv (pnd X pn) [] σ H s :=
  ⟨ok.toTry _ _, I.os, I.bare, I.base, I.loc, I.cell, I.free, I.freeC,
    fun p hp => I.pin p hp, I.hok, I.len⟩
theorem of_pnd (I : Inv (pnd X (q :: (X.pn ++ pins))) [] σ H s) (ok : X.Ok) : Inv X pins σ H s :=
  ⟨ok, I.os, I.bare, I.base, I.loc, I.cell, I.free, I.freeC,
    fun p hp => I.pin p (List.mem_append_left _ (List.mem_cons_of_mem _ hp)), I.hok, I.len⟩
/-- the error's object is tracked from now on -/
theorem inv_err {oe : Obj} {n : Str} (I : Inv (pnd X ((a, oe) :: (X.pn ++ pins))) [] σ H s) (ok : X.Ok) (hz : Zc (.ref (He.ga X.K n)) none oe) (hd : ∃ vs, oe.data = .fields vs) (ha : ∀ o, X.s_0.heap.get? a = some o → a ∈ X.ex) (hpa : ∀ p ∈ X.pn ++ pins, p.1 ≠ a) :
    Inv X pins σ (upd H a (ErrO X.K n a)) s := by
  have J : Inv X pins σ H s := of_pnd I ok
  obtain ⟨g1, g2, g3, g4, g5⟩ := I.pin (a, oe) (List.mem_append.mpr (.inl List.mem_cons_self))
  obtain ⟨vs, hv⟩ := hd
  have ne : ∀ {b : Addr} {u : HO}, H b = some u → b ≠ a := fun e z => by rw [z, g2] at e; cases e
  refine ⟨ok, J.os, J.bare, ⟨J.base.keep, J.base.slot, fun b o q n0 hx => ?_, J.base.there, fun b xs q => ?_, fun b o u q => ?_, fun b ps q => ?_⟩, J.loc, J.cell, ?_, fun y c0 e => ?_, fun p hp => ?_, fun b u q => ?_, J.len⟩
  · rw [upd_ne (fun z => hx (by rw [z]; exact ha o (by rw [← z]; exact q)))]
    exact J.base.free b o q n0 hx
  · have := J.base.tups b xs q
    rw [upd_ne (ne this)]
    exact this
  · have := J.base.frzs b o u q
    rw [upd_ne (ne this)]
    exact this
  · obtain ⟨more, this⟩ := J.base.tbls b ps q
    exact ⟨more, by rw [upd_ne (ne this)]; exact this⟩
  · rw [upd_ne (Ne.symm g3)]
    exact J.free
  · rw [upd_ne (fun z => ?_)]
    · exact J.freeC y c0 e
    · obtain ⟨w', o, ho, hc⟩ := J.cell y c0 e
      rw [z, g1] at ho
      cases ho
      exact g5 _ hc
  · obtain ⟨h1, h2, h3, h4, h5⟩ := J.pin p hp
    exact ⟨h1, by rw [upd_ne (hpa p hp)]; exact h2, h3, h4, h5⟩
  · by_cases z : b = a
    · subst z
      rw [upd_same] at q
      cases q
      refine ⟨⟨oe, vs, g1, hz, hv⟩, ⟨oe, g1⟩, ?_⟩
      rintro h1 h2 ⟨oe', vs', e1, e2, e3⟩ st
      exact ⟨oe', vs', st _ e1, e2, e3⟩
    · rw [upd_ne z] at q
      exact (J.hok b u q).stay (fun _ _ _ r => r) (fun c0 r => by rw [upd_ne (ne r)]; exact r) fun c0 xs r => by rw [upd_ne (ne r)]; exact r
end
section
variable {X : Cx} {x n : Str} {c : Value} {i : Nat} {body suite rest : List Stmt} {b0 : Stmt} {np pos pos2 : Pos}
variable {tb : WX → TS} {ts : Addr → Value → Option Addr → TS} {u0 : TS} {Wout : WX}
theorem pss_tryV (hs : X.stack = X.env :: X.outer) (hf : X.env.frame = some X.env.locals) (hN : X.N.Nodup) (hi : X.N[i]? = some n)
    (hln : X.env.kindOf n = some .local) (hc : Names X x c) (tk : Takes X Wout)
    (hb : ∀ (W : WX) (pn : List (Addr × Obj)) (xe : Value → Shared → Prop), Takes (X.tr pn xe) W →
      PassesOwn (model X.prog X.w) X.A X.env xe → PSs (X.tr pn xe) body (tb W))
    (hsu : ∀ (a : Addr) (oe : Obj) (cls : Value) (d : Option Addr) (pn : List (Addr × Obj)), Zc cls d oe →
      (∃ vs, oe.data = .fields vs) → PSs (X.suite a ((a, oe) :: pn)) (b0 :: suite) (ts a cls d))
    (h0 : PSs X rest u0) :
    PSs X (.Try body [.ExceptHandler (some (.Name x np)) (some n) (b0 :: suite) pos2] [] [] pos :: rest)
      (fun D σ H => tb (wAsV X.K c i ts u0 Wout D) { D with nx := u0 D } σ H) := by
  refine ⟨fun pins s σ H D I h => ?_⟩
  have ok := I.ok
  have hfr : X.A.frames = some (X.env :: X.outer) := by
    rw [ok.frames, hs]
  refine wpAny_execs_cons (thn (Q := SP X pins { D with nx := u0 D }) ?_ fun f t hq => ?_)
  · refine wpAny_Try_except ?_
    let xe1 : Value → Shared → Prop := fun e t1 =>
      wpAny (model X.prog X.w) X.A (noteFrame e X.env) (fun _ t2 =>
        wpAny (model X.prog X.w) X.A (setFlight e none) (fun _ t3 =>
          wpAny (model X.prog X.w) X.A
            (handleBy e X.env [.ExceptHandler (some (.Name x np)) (some n) (b0 :: suite) pos2])
            (SP X pins { D with nx := u0 D }) X.xe t3) X.xe t2) X.xe t1
    refine wpAny_mono ((hb (wAsV X.K c i ts u0 Wout D) (X.pn ++ pins) xe1 (fun u t xx => ?_) PassesOwn.looking).run
      [] s σ H { D with nx := u0 D } (I.toTry _) h) (fun f t1 hsp => ?_) (fun e t1 he => he)
    · obtain ⟨a, B, sI, pins1, σ1, H1, cls, d, rfl, J0, nb, up, sky, na, os, ag, b, hb1, hyes, hno⟩ := xx
      have J : Inv X pins σ1 H1 sI := J0.ofTry ok
      have sky1 : Sky B (X.env :: X.outer) a (Zc cls d) X.env.locals t.heap := by
        rw [← hs]
        exact sky
      show wpAny (model X.prog X.w) X.A (noteFrame (.ref a) X.env) _ _ _
      refine Sky.land Zc.steady hfr hf sky1 fun h3 fl3 up3 => ?_
      have J3 : Inv X pins σ1 H1 { t with heap := h3 } := J.landed nb fl3.1 (up.trans up3) os ag
      obtain ⟨oe3, vs3, he3, hz3, hd3⟩ := fl3.there
      have nfr : a ∉ frs (X.env :: X.outer) := fun hm => by
        obtain ⟨_, o1, e1, hnf⟩ := fl3.2.2.1.mem hm
        rw [he3] at e1
        cases e1
        exact hnf _ hd3
      have nL : a ≠ X.env.locals := fun z =>
        nfr (List.mem_filterMap.mpr ⟨X.env, List.mem_cons_self, by rw [hf, z]⟩)
      have nF : a ∉ X.fs := fun hm => by
        obtain ⟨e, he, q⟩ := List.mem_filterMap.mp hm
        exact nfr (List.mem_filterMap.mpr ⟨e, List.mem_cons_of_mem _ he, q⟩)
      have hBa : B.get? a = none := by
        rcases sky1 with ⟨_, h, _⟩ | ⟨_, h, _⟩ | ⟨_, h, _⟩ <;> exact h
      have ha0 : ∀ o, X.s_0.heap.get? a = some o → a ∈ X.ex := fun o e => by
        by_cases hx : a ∈ X.ex
        · exact hx
        · obtain ⟨o', e'⟩ := J0.base.there a o e hx
          have := nb a o' e' (by rw [hs]; exact nfr)
          rw [hBa] at this
          cases this
      have hpa : ∀ p ∈ X.pn ++ pins, p.1 ≠ a := fun p hp z => by
        have := nb a p.2 (by rw [← z]; exact (J.pin p hp).1) (by rw [hs]; exact nfr)
        rw [hBa] at this
        cases this
      have S3 := J3.suite he3 hd3 na nL nF
      refine wpAny_handleBy_cons (codeAny_handlers_test ?_) (by intro q; cases q)
      have LT : PySem.W.Looks (model X.prog X.w) h3 (typeOf (.ref a)) cls :=
        fun A Q E s k q => wpAny_typeOf_ref (k _ _ he3) (by
          rw [hz3.1]
          exact q)
      have LM := PySem.W.exm_one (M := model X.prog X.w) (J3.kIn) LT hb1
      have test : ∀ {Q : Value → Shared → Prop} {E : Value → Shared → Prop}, Q c { t with heap := h3 } →
          wpAny (model X.prog X.w) (X.A.mark (some (.ref a))) (eval (.Name x np) X.env) Q E { t with heap := h3 } :=
        fun {Q E} q => by
          obtain ⟨hg, hdbg, hm | ⟨hm, hv, hnn⟩⟩ := hc
          · exact ld_glob (X := X.suite a ((a, oe3) :: (X.pn ++ pins)))
              S3 hg hm q hdbg
          · exact ld_blt (X := X.suite a ((a, oe3) :: (X.pn ++ pins)))
              S3 hg hm hv q hnn hdbg
      refine test (LM.here ?_)
      cases b with
      | true =>
        refine codeAny_handlers_suite_as ?_
        refine HandSPX.lands_againZ fl3 fun h4 fl4 up4 => ?_
        have J4 : Inv X pins σ1 H1 { t with heap := h4 } := J.landed nb fl4.1 ((up.trans up3).trans up4) os ag
        obtain ⟨oe4, vs4, he4, hz4, hd4⟩ := fl4.there
        have S4 := J4.suite he4 hd4 na nL nF
        refine store_ok (X := X.suite a ((a, oe4) :: (X.pn ++ pins))) (v := .ref a)
          S4 hN hi (.inl hln) rfl (fun s5 S5 => ?_) (.inr hln)
        refine wpAny_mono ((hsu a oe4 cls d (X.pn ++ pins) hz4 ⟨_, hd4⟩).run
          [] s5 _ H1 _ S5 (hyes rfl a na (by rw [J.len]; exact (List.getElem?_eq_some_iff.mp hi).1))) (fun f s6 hsp => ?_) (fun _ _ z => False.elim z)
        have goes : ∀ {σ6 : L2.St} {H6 : Hp} {Q : Shared → Prop}, Inv (X.suite a ((a, oe4) :: (X.pn ++ pins))) [] σ6 H6 s6 →
            (∀ s7, Inv (pnd X ((a, oe4) :: (X.pn ++ pins))) [] (σ6.set i none) H6 s7 → Q s7) →
            wpAny (model X.prog X.w) X.A (do bindName X.env n .none; unbindBehindTheSuite X.env n pos2)
              (fun _ s7 => Q s7) X.xe s6 := fun {σ6 H6 Q} S6 hq =>
          gone_ok (X := pnd X ((a, oe4) :: (X.pn ++ pins))) (to_pnd S6 ok) hN hi hln hq
        cases f with
        | next =>
          obtain ⟨σ6, H6, S6, q6⟩ := hsp
          obtain ⟨n0, ec, ed, q6⟩ := q6
          subst ec ed
          exact goes S6 fun s7 J7 => ⟨_, _, inv_err J7 ok hz4 ⟨_, hd4⟩ ha0 hpa, q6⟩
        | brk =>
          obtain ⟨σ6, H6, S6, q6⟩ := hsp
          exact goes S6 fun s7 J7 => ⟨_, _, of_pnd J7 ok, q6⟩
        | cont =>
          obtain ⟨σ6, H6, S6, q6⟩ := hsp
          exact goes S6 fun s7 J7 => ⟨_, _, of_pnd J7 ok, q6⟩
        | ret u =>
          obtain ⟨v6, σ6, H6, S6, r6, q6⟩ := hsp
          exact goes S6 fun s7 J7 => ⟨_, _, _, of_pnd J7 ok, r6, q6⟩
      | false =>
        show wpAny _ X.A (handleBy (.ref a) X.env []) _ _ _
        refine wpAny_handleBy_nil ?_
        obtain ⟨k1, k2, k3, oe, vs, T, oT, ts1, he, hz, hd, hv1, hr⟩ := id fl3
        unfold PySem.passOn
        refine wpAny_bind (wpAny_field he hd hv1 ?_)
        rw [if_neg (show ¬ ((Value.ref T == Value.none) = true) by simp)]
        have fin : wpAny (model X.prog X.w) X.A (setFlight (.ref a) X.env.frame) (fun _ s4 =>
            wpAny (model X.prog X.w) X.A (throw (.ref a) : Sem Flow) (SP X pins { D with nx := u0 D }) X.xe s4) X.xe { t with heap := h3 } := by
          rw [hf]
          refine HandSPX.setFlight_upZ fl3 fun h4 hh4 up4 => wpAny_throw (tk _ _ ?_)
          exact ⟨a, B, sI, pins, σ1, H1, cls, d, rfl, J, nb, (up.trans up3).trans up4,
            .inr (.inr (by rw [hs]; exact hh4)), na, os, ag, hno rfl⟩
        first
          | exact wpAny_bind (wpAny_pure (wpAny_bind fin))
          | exact wpAny_bind fin
    · cases f with
      | next =>
        obtain ⟨σ1, H1, J1, q⟩ := hsp
        exact wpAny_execs_nil ⟨σ1, H1, J1.ofTry ok, q⟩
      | brk =>
        obtain ⟨σ1, H1, J1, q⟩ := hsp
        exact ⟨σ1, H1, J1.ofTry ok, q⟩
      | cont =>
        obtain ⟨σ1, H1, J1, q⟩ := hsp
        exact ⟨σ1, H1, J1.ofTry ok, q⟩
      | ret u =>
        obtain ⟨v, σ1, H1, J1, r, q⟩ := hsp
        exact ⟨v, σ1, H1, J1.ofTry ok, r, q⟩
  · cases f with
    | next =>
      obtain ⟨σ1, H1, J1, q⟩ := hq
      exact h0.run pins t σ1 H1 D J1 q
    | ret v => exact hq
    | brk => exact hq
    | cont => exact hq
end
end Ts
/-! TsHook: more facts of the top (exception classes), isinstance of an error that is held, what is raised. -/
namespace Ts
open PySem PySem.Spec PyProof.Rows L2
inductive Xa where
  | excC (x : Str)
  | kit (x : Str) (T : String) (b : Bool)
  | kio (x y : Str) (b : Bool)
def Xa.ok (K : PySem.W.Frag) : Xa → Bool
  | .excC x => He.eqO (PySem.W.findIn K (.ref (He.ga K x)) "__getattribute__") (some (some (.builtin "BaseException.__getattribute__"))) &&
      (He.eqO (PySem.W.findIn K (.ref (He.ga K x)) "__getattr__") (some none) &&
      (decide (PySem.W.subIn K (.ref (He.ga K x)) (.type "BaseException") = some true) &&
      (PySem.W.hasDictIn K (He.ga K x) &&
      (He.eqO (PySem.W.findIn K (.ref (He.ga K x)) "__class__") (some (some (.builtin "object.__class__"))) &&
      (He.eqO (PySem.W.specialIn K (.builtin "object.__class__") "__get__") (some (some (.builtin "getset_descriptor.__get__"))) &&
      (decide (PySem.W.takesIn K (.builtin "object.__class__") = some true) &&
       decide (PySem.W.mroIn K (He.ga K x) (.type "object") = some true)))))))
  | .kit x T b => decide (PySem.W.kitOne K (.ref (He.ga K x)) (.type T) = some b)
  | .kio x y b => decide (PySem.W.kitOne K (.ref (He.ga K x)) (.ref (He.ga K y)) = some b)
def XSays (xa : List Xa) (K : PySem.W.Frag) : Prop := (xa.all fun x => x.ok K) = true
section
variable {xa : List Xa} {K : PySem.W.Frag}
theorem XSays.fact (c : XSays xa K) (i : Nat) {f : Xa} (h : xa[i]? = some f := by rfl) : f.ok K = true :=
  List.all_eq_true.mp c f (List.mem_of_getElem? h)
theorem XSays.excC (c : XSays xa K) (i : Nat) {x : Str} (h : xa[i]? = some (.excC x) := by rfl) : ExcC K (He.ga K x) := by
  obtain ⟨c1, d⟩ := He.ba (c.fact i h)
  obtain ⟨c2, d⟩ := He.ba d
  obtain ⟨c3, d⟩ := He.ba d
  obtain ⟨c4, d⟩ := He.ba d
  obtain ⟨c5, d⟩ := He.ba d
  obtain ⟨c6, d⟩ := He.ba d
  obtain ⟨c7, c8⟩ := He.ba d
  exact ⟨He.eqO_ok c1, He.eqO_ok c2, of_decide_eq_true c3, c4, He.eqO_ok c5, He.eqO_ok c6, of_decide_eq_true c7, of_decide_eq_true c8⟩
theorem XSays.kit (c : XSays xa K) (i : Nat) {x : Str} {T : String} {b : Bool} (h : xa[i]? = some (.kit x T b) := by rfl) :
    PySem.W.kitOne K (.ref (He.ga K x)) (.type T) = some b := of_decide_eq_true (c.fact i h)
theorem XSays.kio (c : XSays xa K) (i : Nat) {x y : Str} {b : Bool} (h : xa[i]? = some (.kio x y b) := by rfl) :
    PySem.W.kitOne K (.ref (He.ga K x)) (.ref (He.ga K y)) = some b := of_decide_eq_true (c.fact i h)
end
def hookX (n : Nat) (fa : List He.Fa) (fn : List He.DefD) (xa : List Xa) : PySem.W.Hook where
  α := He.AlD × Bool
  obs := fun s => (He.obsDG n fa fn s.heap.get?, xa.all fun x => x.ok (He.frG s.heap.get? (He.asD s.heap.get? n)))
  val := fun _ => (He.valD fn, true)
  says := fun _ h => ∃ K : PySem.W.Frag, K.In h ∧ He.SaysD fa fn K ∧ XSays xa K
  of := fun _ _ e => ⟨_, He.frG_in, congrArg Prod.fst e, congrArg Prod.snd e⟩
  keeps := fun _ _ _ ⟨K, hK, c⟩ k => ⟨K, PySem.W.Frag.In.keeps hK k, c⟩
def obsX (n : Nat) (fa : List He.Fa) (fn : List He.DefD) (xa : List Xa) (g : Addr → Option Obj) : He.AlD × Bool :=
  (He.obsDG n fa fn g, xa.all fun x => x.ok (He.frG g (He.asD g n)))
theorem obsX_eq {n : Nat} {fa : List He.Fa} {fn : List He.DefD} {xa : List Xa} {g : Addr → Option Obj} {s : Shared} (h : ∀ a, g a = s.heap.get? a) :
    obsX n fa fn xa g = (hookX n fa fn xa).obs s := by
  have e : g = s.heap.get? := funext h
  rw [e] <;> rfl
theorem Tx.exc {fa : List He.Fa} {fn : List He.DefD} {K : PySem.W.Frag} {mg : Str → Option Value} (T : Tx fa fn K mg) (i : Nat) {x : Str} (h : fa[i]? = some (.exc x) := by rfl) :
    PySem.W.excIn K (He.ga K x) He.veBase "ValueError.__new__" = true ∧ PySem.W.keepIn K (.ref (He.ga K x)) = true ∧
      PySem.W.subIn K (.ref (He.ga K x)) (.type "BaseException") = some true ∧ PySem.W.typeIn K (.ref (He.ga K x)) = some (.type "type") := He.exc_ok (T.says.fact i h)
theorem Tx.exm {fa : List He.Fa} {fn : List He.DefD} {K : PySem.W.Frag} {mg : Str → Option Value} (T : Tx fa fn K mg) (i : Nat) {x y : Str} {b : Bool} (h : fa[i]? = some (.exm x y b) := by rfl) :
    PySem.W.exmOne K (.ref (He.ga K x)) (.ref (He.ga K y)) = some b := He.exm_ok (T.says.fact i h)

/-! ### isinstance of a held error -/
theorem call_isV {X : Cx} {a D : Addr} {oe : Obj} {pn : List (Addr × Obj)} (C : ExcC X.K D) (hz : Zc (.ref D) none oe) (hf : ∃ vs, oe.data = .fields vs) :
    CallR (pnd X ((a, oe) :: pn)) (.builtin "isinstance") (rIsE X.K D a) := by
  intro pins s σ H xs us Q I r h
  obtain ⟨c, cv, b, rfl, hcv, e, q⟩ := h
  cases r with
  | cons rx rr =>
    cases rr with
    | cons rt rr =>
      cases rr
      cases rx
      have ec := hcv _ rt
      subst ec
      obtain ⟨hget, _⟩ := I.pin (a, oe) (List.mem_append.mpr (.inl List.mem_cons_self))
      obtain ⟨vs, hv⟩ := hf
      have J : PySem.W.InstAt s.heap a oe D none := by
        obtain ⟨oc, od, oda, osl⟩ := oe
        obtain ⟨h1, h2⟩ := hz
        dsimp only at h1 h2 hv
        subst h1 h2 hv
        exact ⟨hget, rfl, rfl, trivial⟩
      exact PySem.W.kia_one (PySem.W.handS_kitx_exc C.hg C.hk C.hs C.hd C.ha C.hn C.ht C.hm)
        I.kIn J e (fun z => nomatch z) fun tk => ⟨.bl b, H, I.kept (t' := tk) fun _ _ z => z, rfl, q⟩
/-- a global that stands for an object -/
theorem pe_gref {X : Cx} {x : Str} {C : Addr} {pos : Pos} (h : X.mg x = some (.ref C)) (hg : Gl X x := by rfl) (hd : (x == ("__debug__" : Str)) = false := by decide) : PE X (.Name x pos) (tC (.ref C)) :=
  pe_glob hg h rfl hd
/-- a built-in type by its name -/
theorem pe_bty {X : Cx} {y : Str} {T : String} {pos : Pos} (hm : X.mg y = none) (hv : bootBuiltins y = some (.type T)) (hg : Gl X y := by rfl) (hn : y ≠ "__name__" := by decide) (hd : (y == ("__debug__" : Str)) = false := by decide) :
    PE X (.Name y pos) (tC (.ty T)) := by
  refine ⟨fun pins s σ H Q I h => ?_⟩
  exact ld_blt I hg hm hv ⟨.ty T, H, I, rfl, h⟩ hn hd
/-- isinstance(e, X) told by the facts: an own class, a built-in one -/
theorem r_isE {K : PySem.W.Frag} {D C a : Addr} {H : Hp} {Q : VK} {b : Bool} (h : PySem.W.kitOne K (.ref D) (.ref C) = some b) (k : Q (.bl b) H) : rIsE K D a [.ref a, .ref C] H Q :=
  ⟨.ref C, .ref C, b, rfl, fun u r => r, h, k⟩
theorem r_isT {K : PySem.W.Frag} {D a : Addr} {T : String} {H : Hp} {Q : VK} {b : Bool} (h : PySem.W.kitOne K (.ref D) (.type T) = some b) (k : Q (.bl b) H) : rIsE K D a [.ref a, .ty T] H Q :=
  ⟨.ty T, .type T, b, rfl, fun u r => r, h, k⟩
theorem kit_same {K : PySem.W.Frag} {D : Addr} : PySem.W.kitOne K (.ref D) (.ref D) = some true := by
  unfold PySem.W.kitOne
  rw [if_pos (by simp)]
/-- the rest of a block over an error of a class that is known -/
theorem pss_exD {X : Cx} {rest : List Stmt} {cls : Value} {d : Option Addr} {u : Addr → TS} (h : ∀ D, cls = .ref D → d = none → ExcC X.K D → PSs X rest (u D)) :
    PSs X rest (fun Dn σ H => ∃ D, cls = .ref D ∧ d = none ∧ ExcC X.K D ∧ u D Dn σ H) := by
  refine ⟨fun pins s σ H Dn I hw => ?_⟩
  obtain ⟨D, e1, e2, hx, q⟩ := hw
  exact (h D e1 e2 hx).run pins s σ H Dn I q
theorem zc_of {cls : Value} {d : Option Addr} {D : Addr} {oe : Obj} (e1 : cls = .ref D) (e2 : d = none) (h : Zc cls d oe) : Zc (.ref D) none oe := by
  subst e1 e2
  exact h
theorem pss_nothing {X : Cx} {rest : List Stmt} : PSs X rest tNever := ⟨fun _ _ _ _ _ _ z => z.elim⟩
end Ts
/-! DvCore: data by value: what stands at an address as data; slots, cells. -/
namespace Dv
open PySem PySem.Spec PyProof.Rows L2 Ts
/-- a thing by value; ref: a thing that is told of elsewhere, err: an error of a class -/
inductive Dt where
  | none
  | bool (b : Bool)
  | int (i : Int)
  | str (x : Str)
  | list (ds : List Dt)
  | tuple (ds : List Dt)
  | dic (es : List (Key × Dt))
  | dct (es : List (List Key × Dt))
  | ins (c : Str) (fs : List (Str × Dt))
  | ref (a : Addr)
  | err (n : Str)
  | lsF (ns : List Int)
mutual
def Dt.py : Dt → PyData
  | .none => .none
  | .bool b => .bool b
  | .int i => .int i
  | .str x => .str x
  | .list ds => .list (Dt.pyL ds)
  | .tuple ds => .tuple (Dt.pyL ds)
  | .dic _ => .dict []
  | .dct _ => .dict []
  | .ins _ _ => .dict []
  | .ref _ => .dict []
  | .err _ => .dict []
  | .lsF _ => .dict []
def Dt.pyL : List Dt → List PyData
  | [] => []
  | d :: r => d.py :: Dt.pyL r
end
theorem Dt.pyL_map : ∀ ds : List Dt, Dt.pyL ds = ds.map Dt.py
  | [] => by simp only [Dt.pyL, List.map_nil]
  | d :: r => by rw [Dt.pyL, Dt.pyL_map r, List.map_cons]
mutual
/-- v is the datum d, all of which is in B -/
inductive Fz (K : PySem.W.Frag) (B : Hp) : V → Dt → Prop
  | non : Fz K B .non .none
  | bl (b : Bool) : Fz K B (.bl b) (.bool b)
  | int (i : Int) : Fz K B (.int i) (.int i)
  | str (x : Str) : Fz K B (.str x) (.str x)
  | lst {a : Addr} {xs : List V} {ds : List Dt} : B a = some (.lst xs) → FzA K B xs ds → Fz K B (.ref a) (.list ds)
  | tup {a : Addr} {xs : List V} {ds : List Dt} : SqT K B a xs → FzA K B xs ds → Fz K B (.ref a) (.tuple ds)
  | dic {a : Addr} {kvs : List (Key × V)} {es : List (Key × Dt)} : B a = some (.dK kvs) → kvs.map (·.1) = es.map (·.1) → FzA K B (kvs.map (·.2)) (es.map (·.2)) → Fz K B (.ref a) (.dic es)
  | dct {a : Addr} {kvs : List (List Key × V)} {es : List (List Key × Dt)} : B a = some (.dT kvs) → kvs.map (·.1) = es.map (·.1) → FzA K B (kvs.map (·.2)) (es.map (·.2)) → Fz K B (.ref a) (.dct es)
  | ins {a dx : Addr} {c : Str} {kvs : List (Str × V)} {es : List (Str × Dt)} : B a = some (.ins (He.ga K c) dx kvs) → kvs.map (·.1) = es.map (·.1) → FzA K B (kvs.map (·.2)) (es.map (·.2)) → Fz K B (.ref a) (.ins c es)
  | ref (a : Addr) : Fz K B (.ref a) (.ref a)
  | err {a : Addr} {n : Str} : B a = some (ErrO K n a) → Fz K B (.ref a) (.err n)
  | lsF {a : Addr} {ns : List Int} : SqL K B a (ns.map V.int) → Fz K B (.ref a) (.lsF ns)
inductive FzA (K : PySem.W.Frag) (B : Hp) : List V → List Dt → Prop
  | nil : FzA K B [] []
  | cons {v : V} {d : Dt} {vs : List V} {ds : List Dt} : Fz K B v d → FzA K B vs ds → FzA K B (v :: vs) (d :: ds)
end
mutual
theorem Fz.ex {K : PySem.W.Frag} {B B' : Hp} (k : Ex B B') : ∀ {v : V} {d : Dt}, Fz K B v d → Fz K B' v d
  | _, _, .non => .non
  | _, _, .bl b => .bl b
  | _, _, .int i => .int i
  | _, _, .str x => .str x
  | _, _, .lst h a => .lst (k _ _ h) (FzA.ex k a)
  | _, _, .tup h a => .tup ((ex_sb k).t _ _ h) (FzA.ex k a)
  | _, _, .dic h e a => .dic (k _ _ h) e (FzA.ex k a)
  | _, _, .dct h e a => .dct (k _ _ h) e (FzA.ex k a)
  | _, _, .ins h e a => .ins (k _ _ h) e (FzA.ex k a)
  | _, _, .ref a => .ref a
  | _, _, .err h => .err (k _ _ h)
  | _, _, .lsF h => .lsF ((ex_sb k).l _ _ h)
theorem FzA.ex {K : PySem.W.Frag} {B B' : Hp} (k : Ex B B') : ∀ {vs : List V} {ds : List Dt}, FzA K B vs ds → FzA K B' vs ds
  | _, _, .nil => .nil
  | _, _, .cons h t => .cons (Fz.ex k h) (FzA.ex k t)
end
section
variable {K : PySem.W.Frag} {B : Hp}
theorem FzA.len : ∀ {vs : List V} {ds : List Dt}, FzA K B vs ds → vs.length = ds.length
  | _, _, .nil => rfl
  | _, _, .cons _ t => congrArg Nat.succ (FzA.len t)
theorem FzA.get : ∀ {vs : List V} {ds : List Dt} {i : Nat} {v : V}, FzA K B vs ds → vs[i]? = some v → ∃ d, ds[i]? = some d ∧ Fz K B v d
  | _, _, _, _, .nil, e => by simp at e
  | _, _, 0, _, .cons h _, e => by
    simp at e
    subst e
    exact ⟨_, rfl, h⟩
  | _, _, i + 1, v, .cons _ t, e => by
    obtain ⟨d, h1, h2⟩ := FzA.get (i := i) (v := v) t (by simpa using e)
    exact ⟨d, by simpa using h1, h2⟩
theorem FzA.getD : ∀ {vs : List V} {ds : List Dt} {i : Nat} {d : Dt}, FzA K B vs ds → ds[i]? = some d → ∃ v, vs[i]? = some v ∧ Fz K B v d
  | _, _, _, _, .nil, e => by simp at e
  | _, _, 0, _, .cons h _, e => by
    simp at e
    subst e
    exact ⟨_, rfl, h⟩
  | _, _, i + 1, d, .cons _ t, e => by
    obtain ⟨v, h1, h2⟩ := FzA.getD (i := i) (d := d) t (by simpa using e)
    exact ⟨v, by simpa using h1, h2⟩
theorem FzA.app : ∀ {vs us : List V} {ds es : List Dt}, FzA K B vs ds → FzA K B us es → FzA K B (vs ++ us) (ds ++ es)
  | _, _, _, _, .nil, h => h
  | _, _, _, _, .cons a t, h => .cons a (FzA.app t h)
theorem FzA.take : ∀ (n : Nat) {vs : List V} {ds : List Dt}, FzA K B vs ds → FzA K B (vs.take n) (ds.take n)
  | 0, _, _, _ => .nil
  | _ + 1, _, _, .nil => .nil
  | n + 1, _, _, .cons h t => .cons h (FzA.take n t)
theorem FzA.drop : ∀ (n : Nat) {vs : List V} {ds : List Dt}, FzA K B vs ds → FzA K B (vs.drop n) (ds.drop n)
  | 0, _, _, h => h
  | _ + 1, _, _, .nil => .nil
  | n + 1, _, _, .cons _ t => FzA.drop n t
theorem FzA.rev {vs : List V} {ds : List Dt} (h : FzA K B vs ds) : FzA K B vs.reverse ds.reverse := by
  induction h using FzA.rec (motive_1 := fun _ _ _ => True) <;> first | trivial | skip
  · exact .nil
  · rename_i h t _ ih
    rw [List.reverse_cons, List.reverse_cons]
    exact ih.app (.cons h .nil)
theorem FzA.set {v : V} {d : Dt} (h : Fz K B v d) : ∀ {vs : List V} {ds : List Dt} (i : Nat), FzA K B vs ds → FzA K B (vs.set i v) (ds.set i d)
  | _, _, _, .nil => .nil
  | _, _, 0, .cons _ t => .cons h t
  | _, _, i + 1, .cons q t => .cons q (FzA.set h i t)
theorem FzA.erase : ∀ {vs : List V} {ds : List Dt} (i : Nat), FzA K B vs ds → FzA K B (vs.eraseIdx i) (ds.eraseIdx i)
  | _, _, _, .nil => .nil
  | _, _, 0, .cons _ t => t
  | _, _, i + 1, .cons q t => .cons q (FzA.erase i t)
theorem FzA.rep {vs : List V} {ds : List Dt} (h : FzA K B vs ds) : ∀ n : Nat, FzA K B (List.replicate n vs).flatten (List.replicate n ds).flatten
  | 0 => .nil
  | n + 1 => by
    rw [List.replicate_succ, List.replicate_succ, List.flatten_cons, List.flatten_cons]
    exact h.app (FzA.rep h n)
theorem FzA.ints : ∀ ns : List Int, FzA K B (ns.map V.int) (ns.map Dt.int)
  | [] => .nil
  | _ :: r => .cons (.int _) (FzA.ints r)
theorem FzA.of_ints : ∀ {vs : List V} {ns : List Int}, FzA K B vs (ns.map Dt.int) → vs = ns.map V.int
  | _, [], h => by
    cases h
    rfl
  | _, n :: r, h => by
    cases h with
    | cons a t =>
      cases a
      rw [FzA.of_ints t]
      rfl
theorem FzA.of_bools : ∀ {vs : List V} {ns : List Bool}, FzA K B vs (ns.map Dt.bool) → vs = ns.map V.bl
  | _, [], h => by
    cases h
    rfl
  | _, n :: r, h => by
    cases h with
    | cons a t =>
      cases a
      rw [FzA.of_bools t]
      rfl
theorem FzA.strs : ∀ ns : List Str, FzA K B (ns.map V.str) (ns.map Dt.str)
  | [] => .nil
  | _ :: r => .cons (.str _) (FzA.strs r)
theorem FzA.of_strs : ∀ {vs : List V} {ns : List Str}, FzA K B vs (ns.map Dt.str) → vs = ns.map V.str
  | _, [], h => by
    cases h
    rfl
  | _, n :: r, h => by
    cases h with
    | cons a t =>
      cases a
      rw [FzA.of_strs t]
      rfl
end
/-! ### data without dicts, as the layer reads them -/
mutual
theorem Fz.dp {K : PySem.W.Frag} {B : Hp} : ∀ {v : V} {d : Dt}, Fz K B v d → d.py.hasDict = false → Dp K B v d.py
  | _, _, .non, _ => .non
  | _, _, .bl b, _ => .bl b
  | _, _, .int i, _ => .int i
  | _, _, .str x, _ => .str x
  | _, _, .lst h a, e => .lst (SqL.of h) (FzA.dp a e)
  | _, _, .tup h a, e => .tup h (FzA.dp a e)
  | _, _, .dic h _ a, e => nomatch (show true = false from e)
  | _, _, .dct h _ a, e => nomatch (show true = false from e)
  | _, _, .ins h _ a, e => nomatch (show true = false from e)
  | _, _, .ref _, e => nomatch (show true = false from e)
  | _, _, .err _, e => nomatch (show true = false from e)
  | _, _, .lsF _, e => nomatch (show true = false from e)
theorem FzA.dp {K : PySem.W.Frag} {B : Hp} : ∀ {vs : List V} {ds : List Dt}, FzA K B vs ds → PyData.hasDictAll (Dt.pyL ds) = false → DpAll K B vs (Dt.pyL ds)
  | _, _, .nil, _ => .nil
  | _, _, .cons h t, e => .cons (Fz.dp h (Bool.or_eq_false_iff.mp e).1) (FzA.dp t (Bool.or_eq_false_iff.mp e).2)
end

/-! ### owned: a list, a dict, an instance at an address of its own; what it holds is frozen -/
inductive Own (K : PySem.W.Frag) (B H : Hp) (a : Addr) : Dt → Prop
  | lst {xs : List V} {ds : List Dt} : H a = some (.lst xs) → FzA K B xs ds → Own K B H a (.list ds)
  | dic {kvs : List (Key × V)} {es : List (Key × Dt)} : H a = some (.dK kvs) → kvs.map (·.1) = es.map (·.1) → FzA K B (kvs.map (·.2)) (es.map (·.2)) → Own K B H a (.dic es)
  | dct {kvs : List (List Key × V)} {es : List (List Key × Dt)} : H a = some (.dT kvs) → kvs.map (·.1) = es.map (·.1) → FzA K B (kvs.map (·.2)) (es.map (·.2)) → Own K B H a (.dct es)
  | ins {dx : Addr} {c : Str} {kvs : List (Str × V)} {es : List (Str × Dt)} : H a = some (.ins (He.ga K c) dx kvs) → kvs.map (·.1) = es.map (·.1) → FzA K B (kvs.map (·.2)) (es.map (·.2)) → Own K B H a (.ins c es)
/-- what may be owned -/
def oo : HO → Bool
  | .lst _ => true
  | .dK _ => true
  | .dT _ => true
  | .ins _ _ _ => true
  | _ => false
/-- no table of code objects -/
def nt : HO → Bool
  | .tbl _ => false
  | _ => true
theorem oo_nt {o : HO} (h : oo o = true) : nt o = true := by cases o <;> first | rfl | cases h
/-- something stands there, no table -/
def PN (H : Hp) (a : Addr) : Prop := ∃ o, H a = some o ∧ nt o = true
theorem PN.ne {H : Hp} {a : Addr} (h : PN H a) : H a ≠ none := by
  obtain ⟨o, e, _⟩ := h
  rw [e]
  exact fun z => (by cases z)
theorem PN.ex {H H' : Hp} {a : Addr} (k : Ex H H') (h : PN H a) : PN H' a := by
  obtain ⟨o, e, n⟩ := h
  exact ⟨o, k _ _ e, n⟩
section
variable {K : PySem.W.Frag} {B B' H H' : Hp} {a : Addr} {d : Dt}
theorem Own.mono (h : Own K B H a d) (k : Ex B B') (e : H' a = H a) : Own K B' H' a d := by
  cases h with
  | lst h t => exact .lst (e.trans h) (t.ex k)
  | dic h z t => exact .dic (e.trans h) z (t.ex k)
  | dct h z t => exact .dct (e.trans h) z (t.ex k)
  | ins h z t => exact .ins (e.trans h) z (t.ex k)
theorem Own.at_ (h : Own K B H a d) : ∃ o, H a = some o ∧ oo o = true := by
  cases h with
  | lst h t => exact ⟨_, h, rfl⟩
  | dic h z t => exact ⟨_, h, rfl⟩
  | dct h z t => exact ⟨_, h, rfl⟩
  | ins h z t => exact ⟨_, h, rfl⟩
theorem Own.pn (h : Own K B H a d) : PN H a := by
  obtain ⟨o, e, n⟩ := h.at_
  exact ⟨o, e, oo_nt n⟩
/-- it is no more owned: it is frozen as it stands -/
theorem Own.frz {o : HO} (h : Own K B H a d) (e : H a = some o) (n : B a = none) : Fz K (upd B a o) (.ref a) d := by
  have k : Ex B (upd B a o) := ex_new n
  cases h with
  | lst h t =>
    rw [h] at e
    cases e
    exact .lst upd_same (t.ex k)
  | dic h z t =>
    rw [h] at e
    cases e
    exact .dic upd_same z (t.ex k)
  | dct h z t =>
    rw [h] at e
    cases e
    exact .dct upd_same z (t.ex k)
  | ins h z t =>
    rw [h] at e
    cases e
    exact .ins upd_same z (t.ex k)
end

/-! ### slots and cells by value -/
abbrev Cells := Addr → Option Dt
def cput (cs : Cells) (a : Addr) (x : Option Dt) : Cells := fun b => if b = a then x else cs b
theorem cput_same {cs : Cells} {a : Addr} {x : Option Dt} : cput cs a x a = x := if_pos rfl
theorem cput_ne {cs : Cells} {a b : Addr} {x : Option Dt} (h : b ≠ a) : cput cs a x b = cs b := if_neg h
theorem cput_cput {cs : Cells} {a : Addr} {x y : Option Dt} : cput (cput cs a x) a y = cput cs a y := by
  funext b
  unfold cput
  split <;> rfl
theorem cput_id {cs : Cells} {a : Addr} {x : Option Dt} (h : cs a = x) : cput cs a x = cs := by
  funext b
  unfold cput
  split
  · rename_i e
    rw [e, h]
  · rfl
structure Sl where
  l : List (Option Dt)
  cs : Cells
def Sl.set (s : Sl) (i : Nat) (x : Option Dt) : Sl := ⟨s.l.set i x, s.cs⟩
def Sl.cell (s : Sl) (a : Addr) (x : Option Dt) : Sl := ⟨s.l, cput s.cs a x⟩
/-- the tables of code objects; what is frozen ahead of all -/
structure Tbs where
  l : List (Addr × Str)
  z : Hp
  k : List (Addr × Str)
/-- what is told of a body: which slots own, which of them are the caller's; the tables of code objects -/
structure Vc where
  o : Nat → Bool
  io : List Nat
  W : WX
  T : Tbs
/-- the entry: A0, what may be changed -/
structure Frm where
  H0 : Hp
  B0 : Hp
  A0 : Addr → Prop
  io : Nat → Option V
/-- slot i owns what stands at a -/
def OS (c : Vc) (s : Sl) (σ : L2.St) (i : Nat) (a : Addr) : Prop := (∃ d, s.l[i]? = some (some d)) ∧ c.o i = true ∧ σ[i]? = some (some (.ref a))
/-- it may be changed -/
def FrA (F : Frm) (B : Hp) (T : List Addr) (a : Addr) : Prop := B a = none ∧ (F.A0 a ∨ ¬ PN F.H0 a) ∧ a ∉ T
structure TbOk (T : Tbs) (B H : Hp) : Prop where
  l : ∀ p ∈ T.l, LamX.TabS H p.1 p.2 ∧ B p.1 = none
  z : Ex T.z B
  k : ∀ p ∈ T.k, H p.1 = some (LamX.CodeO p.1 p.2)
  n : ∀ a o, B a = some o → nt o = true
structure SR (K : PySem.W.Frag) (c : Vc) (F : Frm) (B : Hp) (s : Sl) (σ : L2.St) (H : Hp) (T : List Addr) : Prop where
  len : s.l.length = σ.length
  bh : Ex B H
  eb : Ex F.B0 B
  b0 : ∀ a, PN F.H0 a → ¬ F.A0 a → B a = F.B0 a
  th : ∀ a, PN F.H0 a → PN H a
  fr : ∀ a o, F.H0 a = some o → nt o = true → ¬ F.A0 a → H a = some o
  io : ∀ i v, F.io i = some v → i ∈ c.io ∧ σ[i]? = some (some v)
  a0 : ∀ a, F.A0 a → PN F.H0 a
  tb : TbOk c.T B H
  tmp : ∀ a ∈ T, B a = none ∧ PN H a ∧ (F.A0 a ∨ ¬ PN F.H0 a)
  sl : ∀ i d, s.l[i]? = some (some d) → ∃ v, σ[i]? = some (some v) ∧ ((c.o i = false ∧ Fz K B v d) ∨ (c.o i = true ∧ ∃ a, v = .ref a ∧ Own K B H a d))
  ow : ∀ i a, OS c s σ i a → FrA F B T a
  dj : ∀ i j a, OS c s σ i a → OS c s σ j a → i = j
  cl : ∀ a d, s.cs a = some d → Own K B H a d ∧ FrA F B T a ∧ ∀ i, ¬ OS c s σ i a
theorem set_get {α : Type} {xs : List (Option α)} {i j : Nat} {x y : α} (h : (xs.set i (some x))[j]? = some (some y)) : (j = i ∧ y = x ∧ i < xs.length) ∨ (j ≠ i ∧ xs[j]? = some (some y)) := by
  by_cases e : j = i
  · subst e
    by_cases hl : j < xs.length
    · rw [List.getElem?_set_self hl] at h
      cases h
      exact .inl ⟨rfl, rfl, hl⟩
    · rw [List.getElem?_eq_none (by rw [List.length_set]; omega)] at h
      cases h
  · rw [List.getElem?_set_ne (Ne.symm e)] at h
    exact .inr ⟨e, h⟩
theorem set_none {α : Type} {xs : List (Option α)} {i j : Nat} {y : α} (h : (xs.set i none)[j]? = some (some y)) : j ≠ i ∧ xs[j]? = some (some y) := by
  by_cases e : j = i
  · rw [e] at h
    by_cases hl : i < xs.length
    · rw [List.getElem?_set_self hl] at h; cases h
    · rw [List.getElem?_eq_none (by rw [List.length_set]; omega)] at h; cases h
  · rw [List.getElem?_set_ne (Ne.symm e)] at h
    exact ⟨e, h⟩
section
variable {K : PySem.W.Frag} {c : Vc} {F : Frm} {B B' H H' : Hp} {s s' : Sl} {σ σ' : L2.St} {T : List Addr} {a b p : Addr} {o : HO} {v : V} {d : Dt} {i j : Nat}
theorem SR.os (r : SR K c F B s σ H T) (h : OS c s σ i a) : ∃ d, s.l[i]? = some (some d) ∧ Own K B H a d := by
  obtain ⟨⟨d, e⟩, ho, hv⟩ := h
  obtain ⟨v, ev, ⟨z, _⟩ | ⟨_, a', rfl, y⟩⟩ := r.sl i d e
  · rw [ho] at z; cases z
  · rw [hv] at ev
    cases ev
    exact ⟨d, e, y⟩
/-- a frozen slot -/
theorem SR.get (r : SR K c F B s σ H T) (h : s.l[i]? = some (some d)) (ho : c.o i = false) : ∃ v, σ[i]? = some (some v) ∧ Fz K B v d := by
  obtain ⟨v, e, ⟨_, q⟩ | ⟨q, _⟩⟩ := r.sl i d h
  · exact ⟨v, e, q⟩
  · rw [ho] at q; cases q
/-- an owned slot -/
theorem SR.own (r : SR K c F B s σ H T) (h : s.l[i]? = some (some d)) (ho : c.o i = true) : ∃ a, σ[i]? = some (some (.ref a)) ∧ Own K B H a d ∧ OS c s σ i a := by
  obtain ⟨v, e, ⟨q, _⟩ | ⟨_, a, rfl, q⟩⟩ := r.sl i d h
  · rw [ho] at q; cases q
  · exact ⟨a, e, q, ⟨d, h⟩, ho, e⟩
theorem TbOk.step {T : Tbs} (h : TbOk T B H) (k1 : Ex B B') (k4 : Ex H H') (k3 : ∀ p ∈ T.l, B' p.1 = B p.1) (k5 : ∀ a o, B' a = some o → B a = some o ∨ nt o = true) : TbOk T B' H' := ⟨fun p m => by
  obtain ⟨h1, h2⟩ := h.l p m
  exact ⟨h1.ext k4, (k3 p m).trans h2⟩, Evl.Ex.trans h.z k1, fun p m => k4 _ _ (h.k p m), fun a o e => (k5 a o e).elim (h.n a o) id⟩
theorem nt_upd {B : Hp} {p : Addr} {o : HO} (ho : nt o = true) : ∀ a u, upd B p o a = some u → B a = some u ∨ nt u = true := fun a u e => by
  by_cases z : a = p
  · rw [z, upd_same] at e
    cases e
    exact .inr ho
  · rw [upd_ne z] at e
    exact .inl e
theorem TbOk.at_ {T : Tbs} (h : TbOk T B H) {p : Addr × Str} (m : p ∈ T.l) : ∃ ps, H p.1 = some (.tbl ps) := by
  obtain ⟨⟨ps, e, _⟩, _⟩ := h.l p m
  exact ⟨ps, e⟩
/-- the frozen grows, all else stays -/
theorem SR.step (r : SR K c F B s σ H T) (k1 : Ex B B') (k2 : Ex B' H') (k3 : ∀ a, H a ≠ none → B' a = B a) (k4 : Ex H H') (k5 : ∀ a o, B' a = some o → B a = some o ∨ nt o = true := by exact fun _ _ h => .inl h) : SR K c F B' s σ H' T := by
  have st : ∀ a, H a ≠ none → H' a = H a := fun a h => by
    cases e : H a with
    | none => exact absurd e h
    | some u => exact k4 _ _ e
  have fa : ∀ {a}, H a ≠ none → FrA F B T a → FrA F B' T a := fun h ⟨x, y⟩ => ⟨(k3 _ h).trans x, y⟩
  refine ⟨r.len, k2, Evl.Ex.trans r.eb k1, fun a h na => (k3 a (r.th a h).ne).trans (r.b0 a h na), fun a h => (r.th a h).ex k4, fun a u e n na => k4 _ _ (r.fr a u e n na), r.io, r.a0,
    r.tb.step k1 k4 (fun p m => k3 _ (by obtain ⟨ps, e⟩ := r.tb.at_ m; rw [e]; exact fun z => (by cases z))) k5, fun a m => ?_, fun i d h => ?_, fun i a h => ?_, r.dj, fun a d h => ?_⟩
  · obtain ⟨t1, t2, t3⟩ := r.tmp a m
    exact ⟨(k3 a t2.ne).trans t1, t2.ex k4, t3⟩
  · obtain ⟨v, e, ⟨q, z⟩ | ⟨q, a, rfl, z⟩⟩ := r.sl i d h
    · exact ⟨v, e, .inl ⟨q, z.ex k1⟩⟩
    · exact ⟨_, e, .inr ⟨q, a, rfl, z.mono k1 (st a z.pn.ne)⟩⟩
  · obtain ⟨d, _, z⟩ := r.os h
    exact fa z.pn.ne (r.ow i a h)
  · obtain ⟨z, f, n⟩ := r.cl a d h
    exact ⟨z.mono k1 (st a z.pn.ne), fa z.pn.ne f, n⟩
theorem SR.bn (r : SR K c F B s σ H T) (hp : H p = none) : B p = none := by
  cases e : B p with
  | none => rfl
  | some u => rw [r.bh _ _ e] at hp; cases hp
theorem SR.f0 (r : SR K c F B s σ H T) (hp : H p = none) : ¬ PN F.H0 p := fun h => (r.th p h).ne hp
theorem SR.noOs (r : SR K c F B s σ H T) (hp : H p = none) : ∀ i, ¬ OS c s σ i p := fun i h => by
  obtain ⟨d, _, z⟩ := r.os h
  exact z.pn.ne hp
theorem SR.noCs (r : SR K c F B s σ H T) (hp : H p = none) : s.cs p = none := by
  cases e : s.cs p with
  | none => rfl
  | some d => exact absurd hp (r.cl p d e).1.pn.ne
/-- a new frozen thing -/
theorem SR.laid (r : SR K c F B s σ H T) (hp : H p = none) (ho : nt o = true := by rfl) : SR K c F (upd B p o) s σ (upd H p o) T ∧ Ex B (upd B p o) := by
  have hB := r.bn hp
  refine ⟨r.step (ex_new hB) (fun a u e => ?_) (fun a h => upd_ne fun z => h (by rw [z]; exact hp)) (ex_new hp) (nt_upd ho), ex_new hB⟩
  by_cases z : a = p
  · rw [z, upd_same] at e; rw [z, upd_same]; exact e
  · rw [upd_ne z] at e ⊢; exact r.bh _ _ e
/-- a new thing of its own -/
theorem SR.temp (r : SR K c F B s σ H []) (hp : H p = none) (ho : nt o = true) : SR K c F B s σ (upd H p o) [p] := by
  have hB := r.bn hp
  have q := r.step (B' := B) (H' := upd H p o) (Evl.Ex.refl _) (Evl.Ex.trans r.bh (ex_new hp)) (fun _ _ => rfl) (ex_new hp)
  refine ⟨q.len, q.bh, q.eb, q.b0, q.th, q.fr, q.io, q.a0, q.tb, fun a m => ?_, q.sl, fun i a h => ?_, q.dj, fun a d h => ?_⟩
  · cases List.mem_singleton.mp m
    exact ⟨hB, ⟨o, upd_same, ho⟩, .inr (r.f0 hp)⟩
  · obtain ⟨t1, t2, _⟩ := q.ow i a h
    refine ⟨t1, t2, fun m => ?_⟩
    cases List.mem_singleton.mp m
    exact r.noOs hp i h
  · obtain ⟨z, ⟨t1, t2, _⟩, n⟩ := q.cl a d h
    refine ⟨z, ⟨t1, t2, fun m => ?_⟩, n⟩
    cases List.mem_singleton.mp m
    rw [r.noCs hp] at h
    cases h
/-- it is frozen -/
theorem SR.frz (r : SR K c F B s σ H [a]) (h : Own K B H a d) : ∃ B', SR K c F B' s σ H [] ∧ Ex B B' ∧ Fz K B' (.ref a) d := by
  obtain ⟨t1, t2, t3⟩ := r.tmp a (by simp)
  obtain ⟨o, e, n⟩ := h.at_
  have k : Ex B (upd B a o) := ex_new t1
  have fa : ∀ {b}, FrA F B [a] b → FrA F (upd B a o) [] b := fun {b} ⟨x, y, z⟩ => ⟨by rw [upd_ne (fun w => z (by simp [w]))]; exact x, y, by simp⟩
  refine ⟨upd B a o, ⟨r.len, fun b u q => ?_, Evl.Ex.trans r.eb k, fun b q nb => ?_, r.th, r.fr, r.io, r.a0, r.tb.step k (Evl.Ex.refl _) (fun p m => upd_ne fun w => ?_) (nt_upd (oo_nt n)), fun _ m => (by cases m), fun i d h => ?_, fun i b h => fa (r.ow i b h), r.dj, fun b d h => ?_⟩, k, h.frz e t1⟩
  · by_cases z : b = a
    · rw [z, upd_same] at q; rw [z, e]; exact q
    · rw [upd_ne z] at q; exact r.bh _ _ q
  · rw [upd_ne (fun z => t3.elim (fun w => nb (by rw [z]; exact w)) fun w => w (by rw [← z]; exact q))]; exact r.b0 b q nb
  · obtain ⟨ps, q⟩ := r.tb.at_ m
    rw [w, e] at q
    cases q
    cases n
  · obtain ⟨v, e, ⟨z, y⟩ | ⟨z, b, rfl, y⟩⟩ := r.sl i d h
    · exact ⟨v, e, .inl ⟨z, y.ex k⟩⟩
    · exact ⟨_, e, .inr ⟨z, b, rfl, y.mono k rfl⟩⟩
  · obtain ⟨z, f, n⟩ := r.cl b d h
    exact ⟨z.mono k rfl, fa f, n⟩
/-- a slot is stored: frozen -/
theorem SR.setF (r : SR K c F B s σ H T) (h : Fz K B v d) (ho : c.o i = false) (hi : c.io.contains i = false) : SR K c F B (s.set i (some d)) (σ.set i (some v)) H T := by
  have osx : ∀ {j a}, OS c (s.set i (some d)) (σ.set i (some v)) j a → OS c s σ j a := fun {j a} ⟨⟨e, q⟩, oj, w⟩ => by
    rcases set_get q with ⟨rfl, _, _⟩ | ⟨ne, q⟩
    · rw [ho] at oj; cases oj
    · rw [List.getElem?_set_ne (Ne.symm ne)] at w
      exact ⟨⟨e, q⟩, oj, w⟩
  refine ⟨by show (s.l.set i (some d)).length = _; rw [List.length_set, List.length_set]; exact r.len, r.bh, r.eb, r.b0, r.th, r.fr, fun j w q => ?_, r.a0, r.tb, r.tmp, fun j e q => ?_, fun j a h => r.ow j a (osx h), fun j k a h1 h2 => r.dj j k a (osx h1) (osx h2), fun a e h => ?_⟩
  · obtain ⟨m, q⟩ := r.io j w q
    refine ⟨m, ?_⟩
    rw [List.getElem?_set_ne (fun z => by rw [z, List.contains_iff_mem.mpr m] at hi; cases hi)]
    exact q
  · rcases set_get q with ⟨rfl, rfl, hl⟩ | ⟨ne, q⟩
    · exact ⟨v, List.getElem?_set_self (by rw [← r.len]; exact hl), .inl ⟨ho, h⟩⟩
    · obtain ⟨w, e, z⟩ := r.sl j e q
      exact ⟨w, by rw [List.getElem?_set_ne (Ne.symm ne)]; exact e, z⟩
  · obtain ⟨z, f, n⟩ := r.cl a e h
    exact ⟨z, f, fun j x => n j (osx x)⟩
/-- a slot is stored: a thing of its own -/
theorem SR.setO (r : SR K c F B s σ H [a]) (h : Own K B H a d) (ho : c.o i = true) (hi : c.io.contains i = false) : SR K c F B (s.set i (some d)) (σ.set i (some (.ref a))) H [] := by
  obtain ⟨t1, t2, t3⟩ := r.tmp a (by simp)
  have osx : ∀ {j b}, OS c (s.set i (some d)) (σ.set i (some (.ref a))) j b → (j = i ∧ b = a) ∨ (j ≠ i ∧ OS c s σ j b) := fun {j b} ⟨⟨e, q⟩, oj, w⟩ => by
    rcases set_get q with ⟨rfl, _, hl⟩ | ⟨ne, q⟩
    · rw [List.getElem?_set_self (by rw [← r.len]; exact hl)] at w
      cases w
      exact .inl ⟨rfl, rfl⟩
    · rw [List.getElem?_set_ne (Ne.symm ne)] at w
      exact .inr ⟨ne, ⟨e, q⟩, oj, w⟩
  have drop : ∀ {b}, FrA F B [a] b → FrA F B [] b := fun ⟨x, y, _⟩ => ⟨x, y, by simp⟩
  refine ⟨by show (s.l.set i (some d)).length = _; rw [List.length_set, List.length_set]; exact r.len, r.bh, r.eb, r.b0, r.th, r.fr, fun j w q => ?_, r.a0, r.tb, fun _ m => (by cases m), fun j e q => ?_, fun j b h => ?_, fun j k b h1 h2 => ?_, fun b e h => ?_⟩
  · obtain ⟨m, q⟩ := r.io j w q
    refine ⟨m, ?_⟩
    rw [List.getElem?_set_ne (fun z => by rw [z, List.contains_iff_mem.mpr m] at hi; cases hi)]
    exact q
  · rcases set_get q with ⟨rfl, rfl, hl⟩ | ⟨ne, q⟩
    · exact ⟨_, List.getElem?_set_self (by rw [← r.len]; exact hl), .inr ⟨ho, a, rfl, h⟩⟩
    · obtain ⟨w, e, z⟩ := r.sl j e q
      exact ⟨w, by rw [List.getElem?_set_ne (Ne.symm ne)]; exact e, z⟩
  · rcases osx h with ⟨_, rfl⟩ | ⟨_, h⟩
    · exact ⟨t1, t3, by simp⟩
    · exact drop (r.ow j b h)
  · rcases osx h1 with ⟨q1, q2⟩ | ⟨_, g1⟩
    · rcases osx h2 with ⟨q3, _⟩ | ⟨_, g2⟩
      · exact q1.trans q3.symm
      · exact absurd (by rw [q2]; simp) (r.ow _ _ g2).2.2
    · rcases osx h2 with ⟨_, q2⟩ | ⟨_, g2⟩
      · exact absurd (by rw [q2]; simp) (r.ow _ _ g1).2.2
      · exact r.dj j k b g1 g2
  · obtain ⟨z, f, n⟩ := r.cl b e h
    refine ⟨z, drop f, fun j x => ?_⟩
    rcases osx x with ⟨_, rfl⟩ | ⟨_, x⟩
    · exact f.2.2 (by simp)
    · exact n j x
/-- the tables may have grown -/
theorem SR.extN (r : SR K c F B s σ H []) (k : LamX.ExtN H H') (t : LamX.Tabs c.T.l H') : SR K c F B s σ H' [] := by
  have kn : ∀ a o, H a = some o → nt o = true → H' a = some o := fun a o e n => k a o e fun ps z => by rw [z] at n; cases n
  have st : ∀ a, PN H a → H' a = H a := fun a ⟨o, e, n⟩ => (kn a o e n).trans e.symm
  refine ⟨r.len, fun a o e => kn a o (r.bh a o e) (r.tb.n a o e), r.eb, r.b0, fun a h => ?_, fun a o e n na => kn a o (r.fr a o e n na) n, r.io, r.a0, ⟨fun p m => ⟨t p m, (r.tb.l p m).2⟩, r.tb.z, fun p m => kn _ _ (r.tb.k p m) rfl, r.tb.n⟩, fun _ m => (by cases m), fun i d h => ?_, r.ow, r.dj, fun a d h => ?_⟩
  · obtain ⟨o, e, n⟩ := r.th a h
    exact ⟨o, kn a o e n, n⟩
  · obtain ⟨v, e, ⟨q, z⟩ | ⟨q, a, rfl, z⟩⟩ := r.sl i d h
    · exact ⟨v, e, .inl ⟨q, z⟩⟩
    · exact ⟨_, e, .inr ⟨q, a, rfl, z.mono (Evl.Ex.refl _) (st a z.pn)⟩⟩
  · obtain ⟨z, f, n⟩ := r.cl a d h
    exact ⟨z.mono (Evl.Ex.refl _) (st a z.pn), f, n⟩
/-- a thing of its own becomes a cell -/
theorem SR.toCell (r : SR K c F B s σ H [a]) (h : Own K B H a d) : SR K c F B (s.cell a (some d)) σ H [] := by
  obtain ⟨t1, t2, t3⟩ := r.tmp a (by simp)
  have drop : ∀ {b}, FrA F B [a] b → FrA F B [] b := fun ⟨x, y, _⟩ => ⟨x, y, by simp⟩
  refine ⟨r.len, r.bh, r.eb, r.b0, r.th, r.fr, r.io, r.a0, r.tb, fun _ m => (by cases m), r.sl, fun j b h => drop (r.ow j b h), r.dj, fun b e q => ?_⟩
  by_cases z : b = a
  · subst z
    have q : cput s.cs b (some d) b = some e := q
    rw [cput_same] at q
    cases q
    exact ⟨h, ⟨t1, t3, by simp⟩, fun j x => (r.ow j b x).2.2 (by simp)⟩
  · have q : cput s.cs a (some d) b = some e := q
    rw [cput_ne z] at q
    obtain ⟨y, f, n⟩ := r.cl b e q
    exact ⟨y, drop f, n⟩
/-- what stands at a is changed: a slot's, or a cell -/
theorem SR.upd1 (r : SR K c F B s σ H T) (fr : FrA F B T a) (h0 : ∃ o, H a = some o ∧ oo o = true) (k1 : ∀ b, b ≠ a → H' b = H b) (pn : PN H' a) (hl : s'.l.length = s.l.length)
    (hs : ∀ i d, s'.l[i]? = some (some d) → (s.l[i]? = some (some d) ∧ ¬ OS c s σ i a) ∨ (OS c s σ i a ∧ Own K B H' a d))
    (hc : ∀ b d, s'.cs b = some d → (b ≠ a ∧ s.cs b = some d) ∨ (b = a ∧ Own K B H' a d ∧ ∃ d0, s.cs a = some d0)) : SR K c F B s' σ H' T := by
  obtain ⟨o0, e0, n0⟩ := h0
  have osx : ∀ {j b}, OS c s' σ j b → OS c s σ j b := fun {j b} ⟨⟨e, q⟩, oj, w⟩ => by
    rcases hs j e q with ⟨q, _⟩ | ⟨⟨q, _, _⟩, _⟩
    · exact ⟨⟨e, q⟩, oj, w⟩
    · exact ⟨q, oj, w⟩
  refine ⟨hl.trans r.len, fun b u q => ?_, r.eb, r.b0, fun b q => ?_, fun b u q n na => ?_, r.io, r.a0, ⟨fun p m => ?_, r.tb.z, fun p m => ?_, r.tb.n⟩, fun b m => ?_, fun j e q => ?_, fun j b h => r.ow j b (osx h), fun j k b h1 h2 => r.dj j k b (osx h1) (osx h2), fun b e q => ?_⟩
  · rw [k1 b (fun z => by rw [z, fr.1] at q; cases q)]; exact r.bh _ _ q
  · by_cases z : b = a
    · rw [z]; exact pn
    · obtain ⟨u, e, n⟩ := r.th b q
      exact ⟨u, by rw [k1 b z]; exact e, n⟩
  · rw [k1 b (fun z => by
      rw [z] at q na
      rcases fr.2.1 with w | w
      · exact na w
      · exact w ⟨u, q, n⟩)]
    exact r.fr b u q n na
  · obtain ⟨⟨ps, h1, h2, h3⟩, hb⟩ := r.tb.l p m
    refine ⟨⟨ps, (k1 _ fun z => by rw [z, e0] at h1; cases h1; cases n0).trans h1, h2, fun pos cv hcv => ?_⟩, hb⟩
    obtain ⟨c0, g1, g2⟩ := h3 pos cv hcv
    exact ⟨c0, g1, by rw [k1 _ (fun z => by rw [z, e0] at g2; unfold LamX.CodeO at g2; cases g2; cases n0)]; exact g2⟩
  · have g2 := r.tb.k p m
    exact (k1 _ fun z => by rw [z, e0] at g2; unfold LamX.CodeO at g2; cases g2; cases n0).trans g2
  · obtain ⟨q1, ⟨u, q2, q3⟩, q4⟩ := r.tmp b m
    exact ⟨q1, ⟨u, by rw [k1 b (fun z => fr.2.2 (z ▸ m))]; exact q2, q3⟩, q4⟩
  · rcases hs j e q with ⟨q, n⟩ | ⟨h, y⟩
    · obtain ⟨w, ew, ⟨z1, z2⟩ | ⟨z1, b, rfl, z2⟩⟩ := r.sl j e q
      · exact ⟨w, ew, .inl ⟨z1, z2⟩⟩
      · refine ⟨_, ew, .inr ⟨z1, b, rfl, z2.mono (Evl.Ex.refl _) (k1 b fun z => n ⟨⟨e, q⟩, z1, by rw [← z]; exact ew⟩)⟩⟩
    · exact ⟨_, h.2.2, .inr ⟨h.2.1, a, rfl, y⟩⟩
  · rcases hc b e q with ⟨ne, q⟩ | ⟨rfl, y, d0, q⟩
    · obtain ⟨z, f, n⟩ := r.cl b e q
      exact ⟨z.mono (Evl.Ex.refl _) (k1 b ne), f, fun j x => n j (osx x)⟩
    · obtain ⟨z, f, n⟩ := r.cl b d0 q
      exact ⟨y, f, fun j x => n j (osx x)⟩
/-- what an owned slot owns is changed -/
theorem SR.change {d' : Dt} (r : SR K c F B s σ H T) (h : OS c s σ i a) (k1 : ∀ b, b ≠ a → H' b = H b) (k2 : Own K B H' a d') : SR K c F B (s.set i (some d')) σ H' T := by
  obtain ⟨d, e, y⟩ := r.os h
  refine r.upd1 (r.ow i a h) y.at_ k1 k2.pn (List.length_set ..) (fun j f q => ?_) fun b f q => ?_
  · rcases set_get q with ⟨rfl, rfl, _⟩ | ⟨ne, q⟩
    · exact .inr ⟨h, k2⟩
    · exact .inl ⟨q, fun x => ne (r.dj j i a x h)⟩
  · have q : s.cs b = some f := q
    exact .inl ⟨fun z => (r.cl b f q).2.2 i (by rw [z]; exact h), q⟩
/-- a cell is changed -/
theorem SR.cellChg {d' : Dt} (r : SR K c F B s σ H T) (h : s.cs a = some d) (k1 : ∀ b, b ≠ a → H' b = H b) (k2 : Own K B H' a d') : SR K c F B (s.cell a (some d')) σ H' T := by
  obtain ⟨y, f, n⟩ := r.cl a d h
  refine r.upd1 f y.at_ k1 k2.pn rfl (fun j f q => .inl ⟨q, n j⟩) fun b f q => ?_
  have q : cput s.cs a (some d') b = some f := q
  by_cases z : b = a
  · subst z
    rw [cput_same] at q
    cases q
    exact .inr ⟨rfl, k2, d, h⟩
  · rw [cput_ne z] at q
    exact .inl ⟨z, q⟩
/-- what a slot owns is the slot's no more -/
theorem SR.release (r : SR K c F B s σ H []) (h : s.l[i]? = some (some d)) (ho : c.o i = true) (hi : c.io.contains i = false) : ∃ a, σ[i]? = some (some (.ref a)) ∧ Own K B H a d ∧ SR K c F B (s.set i none) σ H [a] := by
  obtain ⟨a, ev, y, os⟩ := r.own h ho
  have osx : ∀ {j b}, OS c (s.set i none) σ j b → j ≠ i ∧ OS c s σ j b := fun {j b} ⟨⟨e, q⟩, oj, w⟩ => ⟨(set_none q).1, ⟨e, (set_none q).2⟩, oj, w⟩
  refine ⟨a, ev, y, ⟨by show (s.l.set i none).length = _; rw [List.length_set]; exact r.len, r.bh, r.eb, r.b0, r.th, r.fr, r.io, r.a0, r.tb, fun b m => ?_, fun j f q => r.sl j f (set_none q).2, fun j b x => ?_, fun j k b h1 h2 => r.dj j k b (osx h1).2 (osx h2).2, fun b f q => ?_⟩⟩
  · cases List.mem_singleton.mp m
    obtain ⟨t1, t2, _⟩ := r.ow i a os
    exact ⟨t1, y.pn, t2⟩
  · obtain ⟨t1, t2, _⟩ := r.ow j b (osx x).2
    refine ⟨t1, t2, fun m => ?_⟩
    cases List.mem_singleton.mp m
    exact (osx x).1 (r.dj j i a (osx x).2 os)
  · obtain ⟨z, ⟨t1, t2, _⟩, n⟩ := r.cl b f q
    refine ⟨z, ⟨t1, t2, fun m => ?_⟩, fun j x => n j (osx x).2⟩
    cases List.mem_singleton.mp m
    exact n i os
/-- what a slot owns becomes a cell -/
theorem SR.slotCell (r : SR K c F B s σ H []) (h : s.l[i]? = some (some d)) (ho : c.o i = true) : ∃ a, σ[i]? = some (some (.ref a)) ∧ SR K c F B ((s.set i none).cell a (some d)) σ H [] := by
  obtain ⟨a, ev, y, os⟩ := r.own h ho
  have osx : ∀ {j b}, OS c ((s.set i none).cell a (some d)) σ j b → j ≠ i ∧ OS c s σ j b := fun {j b} ⟨⟨e, q⟩, oj, w⟩ => ⟨(set_none q).1, ⟨e, (set_none q).2⟩, oj, w⟩
  refine ⟨a, ev, ⟨by show (s.l.set i none).length = _; rw [List.length_set]; exact r.len, r.bh, r.eb, r.b0, r.th, r.fr, r.io, r.a0, r.tb, fun _ m => (by cases m), fun j f q => r.sl j f (set_none q).2, fun j b x => r.ow j b (osx x).2, fun j k b h1 h2 => r.dj j k b (osx h1).2 (osx h2).2, fun b f q => ?_⟩⟩
  have q : cput s.cs a (some d) b = some f := q
  by_cases z : b = a
  · subst z
    rw [cput_same] at q
    cases q
    exact ⟨y, r.ow i b os, fun j x => (osx x).1 (r.dj j i b (osx x).2 os)⟩
  · rw [cput_ne z] at q
    obtain ⟨w, fa, n⟩ := r.cl b f q
    exact ⟨w, fa, fun j x => n j (osx x).2⟩
/-- a cell is taken out -/
theorem SR.outCell (r : SR K c F B s σ H []) (h : s.cs a = some d) : Own K B H a d ∧ SR K c F B (s.cell a none) σ H [a] := by
  obtain ⟨y, f, n⟩ := r.cl a d h
  have add : ∀ {b}, b ≠ a → FrA F B [] b → FrA F B [a] b := fun h ⟨x, y, _⟩ => ⟨x, y, by simpa using h⟩
  refine ⟨y, r.len, r.bh, r.eb, r.b0, r.th, r.fr, r.io, r.a0, r.tb, fun b m => ?_, r.sl, fun j b x => add (fun z => n j (by rw [← z]; exact x)) (r.ow j b x), r.dj, fun b e q => ?_⟩
  · cases List.mem_singleton.mp m
    exact ⟨f.1, y.pn, f.2.1⟩
  · have q : cput s.cs a none b = some e := q
    by_cases z : b = a
    · rw [z, cput_same] at q; cases q
    · rw [cput_ne z] at q
      obtain ⟨w, fa, m⟩ := r.cl b e q
      exact ⟨w, add z fa, m⟩
/-- a cell becomes a slot's own -/
theorem SR.takeCell (r : SR K c F B s σ H []) (h : s.cs a = some d) (ho : c.o i = true) (hi : c.io.contains i = false) : SR K c F B ((s.set i (some d)).cell a none) (σ.set i (some (.ref a))) H [] := by
  obtain ⟨y, f, n⟩ := r.cl a d h
  have osx : ∀ {j b}, OS c ((s.set i (some d)).cell a none) (σ.set i (some (.ref a))) j b → (j = i ∧ b = a) ∨ (j ≠ i ∧ OS c s σ j b) := fun {j b} ⟨⟨e, q⟩, oj, w⟩ => by
    rcases set_get q with ⟨rfl, _, hl⟩ | ⟨ne, q⟩
    · rw [List.getElem?_set_self (by rw [← r.len]; exact hl)] at w
      cases w
      exact .inl ⟨rfl, rfl⟩
    · rw [List.getElem?_set_ne (Ne.symm ne)] at w
      exact .inr ⟨ne, ⟨e, q⟩, oj, w⟩
  refine ⟨by show (s.l.set i (some d)).length = _; rw [List.length_set, List.length_set]; exact r.len, r.bh, r.eb, r.b0, r.th, r.fr, fun j w q => ?_, r.a0, r.tb, fun _ m => (by cases m), fun j e q => ?_, fun j b x => ?_, fun j k b h1 h2 => ?_, fun b e q => ?_⟩
  · obtain ⟨m, q⟩ := r.io j w q
    refine ⟨m, ?_⟩
    rw [List.getElem?_set_ne (fun z => by rw [z, List.contains_iff_mem.mpr m] at hi; cases hi)]
    exact q
  · rcases set_get q with ⟨rfl, rfl, hl⟩ | ⟨ne, q⟩
    · exact ⟨_, List.getElem?_set_self (by rw [← r.len]; exact hl), .inr ⟨ho, a, rfl, y⟩⟩
    · obtain ⟨w, e, z⟩ := r.sl j e q
      exact ⟨w, by rw [List.getElem?_set_ne (Ne.symm ne)]; exact e, z⟩
  · rcases osx x with ⟨_, rfl⟩ | ⟨_, x⟩
    · exact f
    · exact r.ow j b x
  · rcases osx h1 with ⟨q1, q2⟩ | ⟨_, g1⟩
    · rcases osx h2 with ⟨q3, _⟩ | ⟨_, g2⟩
      · exact q1.trans q3.symm
      · exact absurd g2 (by rw [q2]; exact n _)
    · rcases osx h2 with ⟨_, q2⟩ | ⟨_, g2⟩
      · exact absurd g1 (by rw [q2]; exact n _)
      · exact r.dj j k b g1 g2
  · have q : cput s.cs a none b = some e := q
    by_cases z : b = a
    · rw [z, cput_same] at q; cases q
    · rw [cput_ne z] at q
      obtain ⟨w, fa, m⟩ := r.cl b e q
      refine ⟨w, fa, fun j x => ?_⟩
      rcases osx x with ⟨_, rfl⟩ | ⟨_, x⟩
      · exact z rfl
      · exact m j x
/-- some is forgotten; the slots of what is forgotten may have been stored -/
theorem SR.sig (r : SR K c F B s σ H T) (hl : s'.l.length = s.l.length) (hl2 : σ'.length = σ.length) (h : ∀ (j : Nat) (d : Dt), s'.l[j]? = some (some d) → s.l[j]? = some (some d) ∧ σ'[j]? = σ[j]?) (hi : ∀ i ∈ c.io, σ'[i]? = σ[i]?)
    (hc : ∀ a d, s'.cs a = some d → s.cs a = some d) : SR K c F B s' σ' H T := by
  have osx : ∀ {j b}, OS c s' σ' j b → OS c s σ j b := fun {j b} ⟨⟨e, q⟩, oj, w⟩ => ⟨⟨e, (h j e q).1⟩, oj, by rw [← (h j e q).2]; exact w⟩
  refine ⟨by rw [hl, hl2]; exact r.len, r.bh, r.eb, r.b0, r.th, r.fr, fun i v e => ?_, r.a0, r.tb, r.tmp, fun i d q => ?_, fun j b x => r.ow j b (osx x), fun j k b h1 h2 => r.dj j k b (osx h1) (osx h2), fun b e q => ?_⟩
  · obtain ⟨m, q⟩ := r.io i v e
    exact ⟨m, (hi i m).trans q⟩
  · obtain ⟨q1, q2⟩ := h i d q
    rw [q2]
    exact r.sl i d q1
  · obtain ⟨z, f, n⟩ := r.cl b e (hc b e q)
    exact ⟨z, f, fun j x => n j (osx x)⟩
theorem SR.forget (r : SR K c F B s σ H T) (hl : s'.l.length = s.l.length) (h : ∀ (i : Nat) (d : Dt), s'.l[i]? = some (some d) → s.l[i]? = some (some d)) (hc : ∀ a d, s'.cs a = some d → s.cs a = some d) : SR K c F B s' σ H T :=
  r.sig hl rfl (fun j d q => ⟨h j d q, rfl⟩) (fun _ _ => rfl) hc
/-! ### a thing that is being made beside: it is told of as if it had stood at the entry -/
def Frm.pin (F : Frm) (p : Addr) (o : HO) : Frm := { F with H0 := upd F.H0 p o }
theorem pn_upd (h : a ≠ p) : PN (upd H p o) a ↔ PN H a := by
  unfold PN
  rw [upd_ne h]
theorem SR.pinned (r : SR K c F B s σ H []) (hF : ¬ PN F.H0 p) (hB : B p = none) (hp : H p = some o) (ho : nt o = true) (nos : ∀ i, ¬ OS c s σ i p) (ncs : s.cs p = none) : SR K c (F.pin p o) B s σ H [] := by
  have hB0 : F.B0 p = none := by
    cases w : F.B0 p with
    | none => rfl
    | some u => rw [r.eb _ _ w] at hB; cases hB
  have fa : ∀ {a}, a ≠ p → FrA F B [] a → FrA (F.pin p o) B [] a := fun {a} h ⟨x, y, z⟩ => ⟨x, y.imp id fun q w => q ((pn_upd h).mp w), z⟩
  refine ⟨r.len, r.bh, r.eb, fun a h na => ?_, fun a h => ?_, fun a u h n na => ?_, r.io, fun a ha => ?_, r.tb, fun _ m => (by cases m), r.sl, fun i a h => fa (fun z => nos i (by rw [← z]; exact h)) (r.ow i a h), r.dj, fun a d h => ?_⟩
  · by_cases e : a = p
    · rw [e, hB]; exact hB0.symm
    · exact r.b0 a ((pn_upd e).mp h) na
  · by_cases e : a = p
    · rw [e]; exact ⟨o, hp, ho⟩
    · exact r.th a ((pn_upd e).mp h)
  · have h : upd F.H0 p o a = some u := h
    by_cases e : a = p
    · rw [e, upd_same] at h; rw [e, hp]; exact h
    · rw [upd_ne e] at h; exact r.fr a u h n na
  · have q := r.a0 a ha
    exact (pn_upd fun z => hF (by rw [← z]; exact q)).mpr q
  · obtain ⟨z, f, n⟩ := r.cl a d h
    exact ⟨z, fa (fun w => by rw [w, ncs] at h; cases h) f, n⟩
theorem SR.unpinned (r : SR K c (F.pin p o) B s σ H []) (ho : nt o = true) (hF : ¬ PN F.H0 p) (hB0 : F.B0 p = none) (hA : ∀ a, F.A0 a → PN F.H0 a) :
    SR K c F B s σ H [] ∧ H p = some o ∧ B p = none ∧ (∀ i, ¬ OS c s σ i p) ∧ s.cs p = none := by
  have e1 : (F.pin p o).H0 p = some o := upd_same
  have pp : PN (F.pin p o).H0 p := ⟨o, e1, ho⟩
  have np : ¬ F.A0 p := fun h => hF (hA p h)
  have up : ∀ {a}, PN F.H0 a → PN (F.pin p o).H0 a := fun {a} h => (pn_upd fun z => hF (by rw [← z]; exact h)).mpr h
  have nfr : ∀ {T}, ¬ FrA (F.pin p o) B T p := fun ⟨_, y, _⟩ => y.elim np fun w => w pp
  have fa : ∀ {a T}, FrA (F.pin p o) B T a → FrA F B T a := fun {a T} ⟨x, y, z⟩ => ⟨x, y.imp id fun q w => q (up w), z⟩
  have hBp : B p = none := (r.b0 p pp np).trans hB0
  refine ⟨⟨r.len, r.bh, r.eb, fun a h na => r.b0 a (up h) na, fun a h => r.th a (up h), fun a u h n na => ?_, r.io, hA, r.tb, fun _ m => (by cases m), r.sl, fun i a h => fa (r.ow i a h), r.dj, fun a d h => ?_⟩, r.fr p o e1 ho np, hBp, fun i h => nfr (r.ow i p h), ?_⟩
  · exact r.fr a u (by show upd F.H0 p o a = some u; rw [upd_ne (fun z => hF (by rw [← z]; exact ⟨u, h, n⟩))]; exact h) n na
  · obtain ⟨z, f, n⟩ := r.cl a d h
    exact ⟨z, fa f, n⟩
  · cases e : s.cs p with
    | none => rfl
    | some d => exact absurd (r.cl p d e).2.1 nfr
/-- slots are wiped -/
def wipeL (l : List (Option Dt)) (vs : List Nat) : List (Option Dt) := vs.foldl (fun s i => s.set i none) l
def wipeS (s : Sl) (vs : List Nat) : Sl := ⟨wipeL s.l vs, s.cs⟩
theorem wipeL_len : ∀ (vs : List Nat) (s : List (Option Dt)), (wipeL s vs).length = s.length
  | [], _ => rfl
  | i :: r, s => by
    show (wipeL (s.set i none) r).length = s.length
    rw [wipeL_len r, List.length_set]
theorem wipeL_get : ∀ {vs : List Nat} {s : List (Option Dt)} {j : Nat} {d : Dt}, (wipeL s vs)[j]? = some (some d) → j ∉ vs ∧ s[j]? = some (some d)
  | [], _, _, _, h => ⟨fun m => (by cases m), h⟩
  | i :: r, s, j, d, h => by
    obtain ⟨h1, h2⟩ := wipeL_get (vs := r) (s := s.set i none) h
    obtain ⟨e, h3⟩ := set_none h2
    exact ⟨fun m => (List.mem_cons.mp m).elim e h1, h3⟩
theorem SR.forgetW (r : SR K c F B s σ H T) (vs : List Nat) : SR K c F B (wipeS s vs) σ H T :=
  r.forget (wipeL_len vs s.l) (fun _ _ h => (wipeL_get h).2) fun _ _ h => h
theorem wipeL_at : ∀ {vs : List Nat} {s : List (Option Dt)} {j : Nat}, (wipeL s vs)[j]? = if j ∈ vs ∧ j < s.length then some none else s[j]?
  | [], s, j => by
    rw [if_neg (fun h => by cases h.1)]
    rfl
  | i :: r, s, j => by
    show (wipeL (s.set i none) r)[j]? = _
    rw [wipeL_at, List.length_set]
    by_cases h1 : j ∈ r ∧ j < s.length
    · rw [if_pos h1, if_pos ⟨List.mem_cons_of_mem _ h1.1, h1.2⟩]
    · rw [if_neg h1]
      by_cases e : i = j
      · by_cases hl : j < s.length
        · rw [if_pos ⟨by rw [e]; exact List.mem_cons_self, hl⟩, e, List.getElem?_set_self hl]
        · rw [if_neg (fun h => hl h.2), List.getElem?_eq_none (by rw [List.length_set]; omega), List.getElem?_eq_none (by omega)]
      · rw [List.getElem?_set_ne e]
        by_cases hl : j < s.length
        · rw [if_neg (fun h => (List.mem_cons.mp h.1).elim (fun z => e z.symm) fun z => h1 ⟨z, hl⟩)]
        · rw [if_neg (fun h => hl h.2)]
theorem wipeS_wipeS {vs : List Nat} {s : Sl} : wipeS (wipeS s vs) vs = wipeS s vs := by
  unfold wipeS
  congr 1
  apply List.ext_getElem?
  intro j
  rw [wipeL_at, wipeL_len]
  split
  · rename_i h
    rw [wipeL_at, if_pos h]
  · rfl
theorem SR.asTemp (r : SR K c F B s σ H []) (hF : ¬ PN F.H0 p) (hB : B p = none) (hp : PN H p) (nos : ∀ i, ¬ OS c s σ i p) (ncs : s.cs p = none) : SR K c F B s σ H [p] := by
  have fa : ∀ {a}, a ≠ p → FrA F B [] a → FrA F B [p] a := fun h ⟨x, y, _⟩ => ⟨x, y, by simpa using h⟩
  refine ⟨r.len, r.bh, r.eb, r.b0, r.th, r.fr, r.io, r.a0, r.tb, fun a m => ?_, r.sl, fun i a h => fa (fun z => nos i (by rw [← z]; exact h)) (r.ow i a h), r.dj, fun a d h => ?_⟩
  · cases List.mem_singleton.mp m
    exact ⟨hB, hp, .inr hF⟩
  · obtain ⟨z, f, n⟩ := r.cl a d h
    exact ⟨z, fa (fun w => by rw [w, ncs] at h; cases h) f, n⟩
/-- what is made beside is changed -/
theorem SR.repin {o' : HO} (r : SR K c (F.pin p o) B s σ H []) (ho : oo o = true) (ho' : nt o' = true) (hF : ¬ PN F.H0 p) (hB0 : F.B0 p = none) (hA : ∀ a, F.A0 a → PN F.H0 a) : SR K c (F.pin p o') B s σ (upd H p o') [] := by
  obtain ⟨r1, hp, hB, nos, ncs⟩ := r.unpinned (oo_nt ho) hF hB0 hA
  have fr : FrA F B [] p := ⟨hB, .inr hF, by simp⟩
  have r2 : SR K c F B s σ (upd H p o') [] := r1.upd1 fr ⟨o, hp, ho⟩ (fun b nb => upd_ne nb) ⟨o', upd_same, ho'⟩ rfl (fun j f q => .inl ⟨q, nos j⟩) fun b f q => .inl ⟨fun z => (by rw [z, ncs] at q; cases q), q⟩
  exact r2.pinned hF hB upd_same ho' nos ncs
theorem SR.ctx {c' : Vc} (r : SR K c F B s σ H T) (h1 : c'.o = c.o) (h2 : c'.io = c.io) (h3 : c'.T = c.T) : SR K c' F B s σ H T := by
  obtain ⟨o, io, W, TT⟩ := c
  obtain ⟨o', io', W', TT'⟩ := c'
  cases h1
  cases h2
  cases h3
  exact ⟨r.len, r.bh, r.eb, r.b0, r.th, r.fr, r.io, r.a0, r.tb, r.tmp, r.sl, r.ow, r.dj, r.cl⟩
end
end Dv
/-! DvExpr: expressions by value: their meaning is a predicate transformer over slots of data. -/
namespace Dv
open PySem PySem.Spec PyProof.Rows L2 Ts

/-- a meaning: what is wanted of the value and the slots behind, and of an error -/
abbrev Wt (α : Type) := Sl → (α → Sl → Prop) → (Str → Sl → Prop) → Prop

/-- the frozen grows, all else stays -/
structure Gr (B H B' H' : Hp) : Prop where
  k1 : Ex B B'
  k2 : Ex B' H'
  k3 : ∀ a, H a ≠ none → B' a = B a
  k4 : Ex H H'
  k5 : ∀ a o, B' a = some o → B a = some o ∨ nt o = true
theorem Gr.refl {B H : Hp} (h : Ex B H) : Gr B H B H := ⟨Evl.Ex.refl _, h, fun _ _ => rfl, Evl.Ex.refl _, fun _ _ e => .inl e⟩
theorem Gr.new {B H : Hp} {p : Addr} {o : HO} (h : Ex B H) (hp : H p = none) (ho : nt o = true := by rfl) : Gr B H (upd B p o) (upd H p o) := by
  have hB : B p = none := by
    cases e : B p with
    | none => rfl
    | some u => rw [h _ _ e] at hp; cases hp
  refine ⟨ex_new hB, fun a u e => ?_, fun a h => upd_ne fun z => h (by rw [z]; exact hp), ex_new hp, nt_upd ho⟩
  by_cases z : a = p
  · rw [z, upd_same] at e; rw [z, upd_same]; exact e
  · rw [upd_ne z] at e ⊢; exact h _ _ e
theorem Gr.trans {B H B1 H1 B2 H2 : Hp} (a : Gr B H B1 H1) (b : Gr B1 H1 B2 H2) : Gr B H B2 H2 :=
  ⟨Evl.Ex.trans a.k1 b.k1, b.k2, fun x h => (b.k3 x (by
    cases e : H x with
    | none => exact absurd e h
    | some o => rw [a.k4 _ _ e]; exact fun z => (by cases z))).trans (a.k3 x h), Evl.Ex.trans a.k4 b.k4, fun x o e => (b.k5 x o e).elim (a.k5 x o) .inr⟩
section
variable {K : PySem.W.Frag} {c : Vc} {F : Frm} {B B' H H' : Hp} {s s' : Sl} {σ : L2.St} {T : List Addr} {v : V} {d : Dt}
theorem SR.gr (r : SR K c F B s σ H T) (g : Gr B H B' H') : SR K c F B' s σ H' T := r.step g.k1 g.k2 g.k3 g.k4 g.k5
/-- read: frozen, or owned -/
def Rdb (K : PySem.W.Frag) (B H : Hp) (v : V) (d : Dt) : Prop := Fz K B v d ∨ ∃ a, v = .ref a ∧ Own K B H a d
theorem Rdb.fz (h : Rdb K B H v d) (e : Ex B H) : Fz K H v d := by
  rcases h with h | ⟨a, rfl, h⟩
  · exact h.ex e
  · cases h with
    | lst h t => exact .lst h (t.ex e)
    | dic h z t => exact .dic h z (t.ex e)
    | dct h z t => exact .dct h z (t.ex e)
    | ins h z t => exact .ins h z (t.ex e)
theorem Rdb.list {ds : List Dt} (h : Rdb K B H v (.list ds)) (e : Ex B H) : ∃ a xs, v = .ref a ∧ H a = some (.lst xs) ∧ FzA K B xs ds := by
  rcases h with h | ⟨a, rfl, h⟩
  · cases h with
    | lst h t => exact ⟨_, _, rfl, e _ _ h, t⟩
  · cases h with
    | lst h t => exact ⟨_, _, rfl, h, t⟩
theorem Rdb.tuple {ds : List Dt} (h : Rdb K B H v (.tuple ds)) (e : Ex B H) : ∃ a xs, v = .ref a ∧ SqT K H a xs ∧ FzA K B xs ds := by
  rcases h with h | ⟨a, rfl, h⟩
  · cases h with
    | tup h t => exact ⟨_, _, rfl, (ex_sb e).t _ _ h, t⟩
  · cases h
theorem Rdb.dic {es : List (Key × Dt)} (h : Rdb K B H v (.dic es)) (e : Ex B H) : ∃ a kvs, v = .ref a ∧ H a = some (.dK kvs) ∧ kvs.map (·.1) = es.map (·.1) ∧ FzA K B (kvs.map (·.2)) (es.map (·.2)) := by
  rcases h with h | ⟨a, rfl, h⟩
  · cases h with
    | dic h z t => exact ⟨_, _, rfl, e _ _ h, z, t⟩
  · cases h with
    | dic h z t => exact ⟨_, _, rfl, h, z, t⟩
theorem Rdb.dct {es : List (List Key × Dt)} (h : Rdb K B H v (.dct es)) (e : Ex B H) : ∃ a kvs, v = .ref a ∧ H a = some (.dT kvs) ∧ kvs.map (·.1) = es.map (·.1) ∧ FzA K B (kvs.map (·.2)) (es.map (·.2)) := by
  rcases h with h | ⟨a, rfl, h⟩
  · cases h with
    | dct h z t => exact ⟨_, _, rfl, e _ _ h, z, t⟩
  · cases h with
    | dct h z t => exact ⟨_, _, rfl, h, z, t⟩
theorem Rdb.ins {n : Str} {es : List (Str × Dt)} (h : Rdb K B H v (.ins n es)) (e : Ex B H) : ∃ a dx kvs, v = .ref a ∧ H a = some (.ins (He.ga K n) dx kvs) ∧ kvs.map (·.1) = es.map (·.1) ∧ FzA K B (kvs.map (·.2)) (es.map (·.2)) := by
  rcases h with h | ⟨a, rfl, h⟩
  · cases h with
    | ins h z t => exact ⟨_, _, _, rfl, e _ _ h, z, t⟩
  · cases h with
    | ins h z t => exact ⟨_, _, _, rfl, h, z, t⟩
theorem Rdb.err {n : Str} (h : Rdb K B H v (.err n)) (e : Ex B H) : ∃ a, v = .ref a ∧ H a = some (ErrO K n a) := by
  rcases h with h | ⟨a, rfl, h⟩
  · cases h with
    | err h => exact ⟨_, rfl, e _ _ h⟩
  · cases h
theorem Rdb.lsF {ns : List Int} (h : Rdb K B H v (.lsF ns)) (e : Ex B H) : ∃ a, v = .ref a ∧ SqL K H a (ns.map V.int) := by
  rcases h with h | ⟨a, rfl, h⟩
  · cases h with
    | lsF h => exact ⟨_, rfl, (ex_sb e).l _ _ h⟩
  · cases h
theorem Rdb.rf {a : Addr} (h : Rdb K B H v (.ref a)) : v = .ref a := by
  rcases h with h | ⟨b, rfl, h⟩
  · cases h; rfl
  · cases h
theorem Rdb.int {i : Int} (h : Rdb K B H v (.int i)) : v = .int i := by
  rcases h with h | ⟨b, rfl, h⟩
  · cases h; rfl
  · cases h
theorem Rdb.str {i : Str} (h : Rdb K B H v (.str i)) : v = .str i := by
  rcases h with h | ⟨b, rfl, h⟩
  · cases h; rfl
  · cases h
theorem Rdb.bl {i : Bool} (h : Rdb K B H v (.bool i)) : v = .bl i := by
  rcases h with h | ⟨b, rfl, h⟩
  · cases h; rfl
  · cases h
theorem Rdb.non (h : Rdb K B H v .none) : v = .non := by
  rcases h with h | ⟨b, rfl, h⟩
  · cases h; rfl
  · cases h
theorem Rdb.of (h : Fz K B v d) : Rdb K B H v d := .inl h
end

/-! ### handles: a thing that is read, or changed, later: a datum, a slot's own, a cell -/
inductive ArgV where
  | val (d : Dt)
  | slot (j : Nat)
  | cell (a : Addr)
/-- a handle and its value -/
def AgAt (K : PySem.W.Frag) (c : Vc) (B : Hp) (σ : L2.St) (v : V) : ArgV → Prop
  | .val d => Fz K B v d
  | .slot j => c.o j = true ∧ σ[j]? = some (some v)
  | .cell a => v = .ref a
def valOf (s : Sl) : ArgV → Option Dt
  | .val d => some d
  | .slot j => match s.l[j]? with
    | some (some d) => some d
    | _ => none
  | .cell a => s.cs a
/-- the place of a thing that is changed -/
abbrev Plc := Sum Nat Addr
def plc : ArgV → Option Plc
  | .val _ => none
  | .slot j => some (.inl j)
  | .cell a => some (.inr a)
def putA (s : Sl) : ArgV → Dt → Sl
  | .val _, _ => s
  | .slot j, d => s.set j (some d)
  | .cell a, d => s.cell a (some d)
section
variable {K : PySem.W.Frag} {c : Vc} {F : Frm} {B B' H H' : Hp} {s s' : Sl} {σ : L2.St} {T : List Addr} {v : V} {d : Dt} {h : ArgV}
theorem AgAt.ex (k : Ex B B') (z : AgAt K c B σ v h) : AgAt K c B' σ v h := by
  cases h with
  | val d => exact Fz.ex k z
  | slot j => exact z
  | cell a => exact z
theorem valOf_slot {j : Nat} (e : valOf s (.slot j) = some d) : s.l[j]? = some (some d) := by
  have e : (match s.l[j]? with | some (some d) => some d | _ => none) = some d := e
  split at e
  · rename_i q
    cases e
    exact q
  · cases e
theorem rdb_at (r : SR K c F B s σ H T) (hA : AgAt K c B σ v h) (hv : valOf s h = some d) : Rdb K B H v d := by
  cases h with
  | val x =>
    cases hv
    exact .inl hA
  | slot j =>
    obtain ⟨a, e, z, _⟩ := r.own (valOf_slot hv) hA.1
    have e2 := hA.2
    rw [e] at e2
    cases e2
    exact .inr ⟨a, rfl, z⟩
  | cell a =>
    have hA : v = .ref a := hA
    subst hA
    exact .inr ⟨a, rfl, (r.cl a d hv).1⟩
/-- what is handled is changed -/
theorem SR.chgA (r : SR K c F B s σ H T) (hA : AgAt K c B σ v h) (hv : valOf s h = some d) (hp : (plc h).isSome = true) : ∃ a, v = .ref a ∧ Own K B H a d ∧ ∀ H' d', (∀ b, b ≠ a → H' b = H b) → Own K B H' a d' → SR K c F B (putA s h d') σ H' T := by
  cases h with
  | val x => cases hp
  | slot j =>
    obtain ⟨a, e, z, os⟩ := r.own (valOf_slot hv) hA.1
    have e2 := hA.2
    rw [e] at e2
    cases e2
    exact ⟨a, rfl, z, fun H' d' k1 k2 => r.change os k1 k2⟩
  | cell a =>
    exact ⟨a, hA, (r.cl a d hv).1, fun H' d' k1 k2 => r.cellChg hv k1 k2⟩
end

/-! ### judgements -/
def PostE (K : PySem.W.Frag) (c : Vc) (F : Frm) (B : Hp) (σ : L2.St) (P : Dt → Sl → Prop) (Q : VK) : Prop := ∀ d s' v B' H', P d s' → SR K c F B' s' σ H' [] → Ex B B' → Fz K B' v d → Q v H'
def PostB (K : PySem.W.Frag) (c : Vc) (F : Frm) (B : Hp) (σ : L2.St) (P : Dt → Sl → Prop) (Q : VK) : Prop := ∀ d s' v B' H', P d s' → SR K c F B' s' σ H' [] → Ex B B' → Rdb K B' H' v d → Q v H'
def PostN (K : PySem.W.Frag) (c : Vc) (F : Frm) (B : Hp) (σ : L2.St) (P : Dt → Sl → Prop) (Q : VK) : Prop := ∀ d s' a B' H', P d s' → SR K c F B' s' σ H' [a] → Ex B B' → Own K B' H' a d → Q (.ref a) H'
def PostT (K : PySem.W.Frag) (c : Vc) (F : Frm) (B : Hp) (σ : L2.St) (P : Bool → Sl → Prop) (Q : Bool → Hp → Prop) : Prop := ∀ b s' B' H', P b s' → SR K c F B' s' σ H' [] → Ex B B' → Q b H'
def PostA (K : PySem.W.Frag) (c : Vc) (F : Frm) (B : Hp) (σ : L2.St) (P : List Dt → Sl → Prop) (Q : List V → Hp → Prop) : Prop := ∀ ds s' vs B' H', P ds s' → SR K c F B' s' σ H' [] → Ex B B' → FzA K B' vs ds → Q vs H'
def PostX (K : PySem.W.Frag) (c : Vc) (F : Frm) (σ : L2.St) (E : Str → Sl → Prop) : Prop := ∀ n s' B' H', E n s' → SR K c F B' s' σ H' [] → c.W (.ref (He.ga K n)) none σ H'
def PostL (K : PySem.W.Frag) (c : Vc) (F : Frm) (B : Hp) (σ : L2.St) (P : ArgV → Sl → Prop) (Q : VK) : Prop := ∀ h s' v B' H', P h s' → SR K c F B' s' σ H' [] → Ex B B' → AgAt K c B' σ v h → Q v H'
/-- a frozen value -/
def DX (K : PySem.W.Frag) (c : Vc) (te : TE) (f : Wt Dt) : Prop := ∀ F B s σ H Q P E, SR K c F B s σ H [] → f s P E → PostE K c F B σ P Q → PostX K c F σ E → te σ H Q
/-- a value that is read at once -/
def DB (K : PySem.W.Frag) (c : Vc) (te : TE) (f : Wt Dt) : Prop := ∀ F B s σ H Q P E, SR K c F B s σ H [] → f s P E → PostB K c F B σ P Q → PostX K c F σ E → te σ H Q
/-- a new list, a new dict -/
def DN (K : PySem.W.Frag) (c : Vc) (te : TE) (f : Wt Dt) : Prop := ∀ F B s σ H Q P E, SR K c F B s σ H [] → f s P E → PostN K c F B σ P Q → PostX K c F σ E → te σ H Q
def DL (K : PySem.W.Frag) (c : Vc) (te : TE) (f : Wt ArgV) : Prop := ∀ F B s σ H Q P E, SR K c F B s σ H [] → f s P E → PostL K c F B σ P Q → PostX K c F σ E → te σ H Q
def DT (K : PySem.W.Frag) (c : Vc) (te : TT) (f : Wt Bool) : Prop := ∀ F B s σ H Q P E, SR K c F B s σ H [] → f s P E → PostT K c F B σ P Q → PostX K c F σ E → te σ H Q
def DA (K : PySem.W.Frag) (c : Vc) (te : TA) (f : Wt (List Dt)) : Prop := ∀ F B s σ H Q P E, SR K c F B s σ H [] → f s P E → PostA K c F B σ P Q → PostX K c F σ E → te σ H Q
def VX (X : Cx) (c : Vc) (e : Expr) (f : Wt Dt) : Prop := ∃ te, PE X e te ∧ DX X.K c te f
def VB (X : Cx) (c : Vc) (e : Expr) (f : Wt Dt) : Prop := ∃ te, PE X e te ∧ DB X.K c te f
def VN (X : Cx) (c : Vc) (e : Expr) (f : Wt Dt) : Prop := ∃ te, PE X e te ∧ DN X.K c te f
/-- a handle -/
def VL (X : Cx) (c : Vc) (e : Expr) (f : Wt ArgV) : Prop := ∃ te, PE X e te ∧ DL X.K c te f
def VT (X : Cx) (c : Vc) (e : Expr) (f : Wt Bool) : Prop := ∃ te, PT X e te ∧ DT X.K c te f
def VW (X : Cx) (c : Vc) (e : Expr) (f : Wt Bool) : Prop := ∃ te, PW X e te ∧ DT X.K c te f
def VA (X : Cx) (c : Vc) (es : List Expr) (f : Wt (List Dt)) : Prop := ∃ te, PA X es te ∧ DA X.K c te f

/-! ### values of operations, without slots -/
abbrev Rep (K : PySem.W.Frag) (B H : Hp) (d : Dt) (Q : VK) : Prop := ∀ w B' H', Gr B H B' H' → Fz K B' w d → Q w H'
/-- a two-place operation by value: a partial function -/
def OpV (X : Cx) (fop : Value → Value → Sem Value) (g : Dt → Dt → Option Dt) : Prop := ∃ r : R2, OpR X fop r ∧
  ∀ B H v u x y d Q, Ex B H → Rdb X.K B H v x → Rdb X.K B H u y → g x y = some d → Rep X.K B H d Q → r v u H Q
def IxV (X : Cx) (g : Dt → Dt → Option Dt) : Prop := ∃ r : R2, IxR X r ∧
  ∀ B H v u x y d Q, Ex B H → Rdb X.K B H v x → Rdb X.K B H u y → g x y = some d → Rep X.K B H d Q → r v u H Q
def UnV (X : Cx) (fop : Value → Sem Value) (g : Dt → Option Dt) : Prop := ∃ r, UnR X fop r ∧
  ∀ B H v x d Q, Ex B H → Rdb X.K B H v x → g x = some d → Rep X.K B H d Q → r v H Q
/-- a built-in that is called with one thing that is read -/
def C1V (X : Cx) (f : Value) (g : Dt → Option Dt) : Prop := ∃ r, CallR X f r ∧
  ∀ B H v x d Q, Ex B H → Rdb X.K B H v x → g x = some d → Rep X.K B H d Q → r [v] H Q
/-- one with frozen things -/
def CaV (X : Cx) (f : Value) (g : List Dt → Option Dt) : Prop := ∃ r, CallR X f r ∧
  ∀ B H vs xs d Q, Ex B H → FzA X.K B vs xs → g xs = some d → Rep X.K B H d Q → r vs H Q
/-- one whose answer is new -/
def C1N (X : Cx) (f : Value) (g : Dt → Option Dt) : Prop := ∃ r, CallR X f r ∧
  ∀ B H v x d Q, Ex B H → Rdb X.K B H v x → g x = some d → (∀ p xs o, H p = none → o = HO.lst xs → FzA X.K B xs (match d with | .list ds => ds | _ => []) → (∃ ds, d = .list ds) → Q (.ref p) (upd H p o)) → r [v] H Q

section
variable {X : Cx} {c : Vc} {e a b b' : Expr} {es : List Expr} {te ta tb : TE} {tt tu : TT} {tl : TA} {pos p : Pos} {f fa fb fc : Wt Dt} {fl : Wt (List Dt)} {i : Nat}

/-! ### names and constants -/
def wVar (i : Nat) : Wt Dt := fun s P _ => ∃ d, s.l[i]? = some (some d) ∧ P d s
def wC (d : Dt) : Wt Dt := fun s P _ => P d s
theorem vx_var (h : PE X e (tVar i)) (ho : c.o i = false := by rfl) : VX X c e (wVar i) := by
  refine ⟨_, h, fun F B s σ H Q P E r hf k _ => ?_⟩
  obtain ⟨d, e1, q⟩ := hf
  obtain ⟨v, e2, z⟩ := r.get e1 ho
  exact ⟨v, e2, k d s v B H q r (Evl.Ex.refl _) z⟩
theorem vx_con {v : V} {d : Dt} (h : PE X e (tC v)) (hv : ∀ B, Fz X.K B v d) : VX X c e (wC d) :=
  ⟨_, h, fun F B s σ H Q P E r hf k _ => k d s v B H hf r (Evl.Ex.refl _) (hv B)⟩
theorem vx_int {i : Int} (h : PE X e (tC (.int i))) : VX X c e (wC (.int i)) := vx_con h fun _ => .int i
theorem vx_str {i : Str} (h : PE X e (tC (.str i))) : VX X c e (wC (.str i)) := vx_con h fun _ => .str i
theorem vx_bl {i : Bool} (h : PE X e (tC (.bl i))) : VX X c e (wC (.bool i)) := vx_con h fun _ => .bl i
theorem vx_non (h : PE X e (tC .non)) : VX X c e (wC .none) := vx_con h fun _ => .non
/-- a module's constant: a tuple of the written part -/
theorem vx_dat {a : Addr} {d : Dt} (h : PE X e (tC (.ref a))) (hv : ∀ B, Fz X.K B (.ref a) d) : VX X c e (wC d) := vx_con h hv
theorem vb_of (h : VX X c e f) : VB X c e f := by
  obtain ⟨te, h1, h2⟩ := h
  exact ⟨te, h1, fun F B s σ H Q P E r hf k kx => h2 F B s σ H Q P E r hf (fun d s' v B' H' p r' e z => k d s' v B' H' p r' e (.inl z)) kx⟩
theorem vx_of (h : VN X c e f) : VX X c e f := by
  obtain ⟨te, h1, h2⟩ := h
  refine ⟨te, h1, fun F B s σ H Q P E r hf k kx => h2 F B s σ H Q P E r hf (fun d s' a B' H' p r' e z => ?_) kx⟩
  obtain ⟨B2, r2, e2, z2⟩ := r'.frz z
  exact k d s' _ B2 H' p r2 (Evl.Ex.trans e e2) z2
/-- a new thing as a cell -/
def wCell (f : Wt Dt) : Wt Dt := fun s P E => f s (fun d s1 => ∀ a, s1.cs a = none → P (.ref a) (s1.cell a (some d))) E
theorem vx_cell (h : VN X c e f) : VX X c e (wCell f) := by
  obtain ⟨te, h1, h2⟩ := h
  refine ⟨te, h1, fun F B s σ H Q P E r hf k kx => h2 F B s σ H _ _ E r hf (fun d s' a B' H' p r' e z => ?_) kx⟩
  refine k _ _ _ B' H' (p a ?_) (r'.toCell z) e (.ref a)
  cases q : s'.cs a with
  | none => rfl
  | some x => exact absurd (by simp) (r'.cl a x q).2.1.2.2
def wL (f : Wt Dt) : Wt ArgV := fun s P E => f s (fun d s1 => P (.val d) s1) E
theorem vl_val (h : VX X c e f) : VL X c e (wL f) := by
  obtain ⟨te, h1, h2⟩ := h
  exact ⟨te, h1, fun F B s σ H Q P E r hf k kx => h2 F B s σ H _ _ E r hf (fun d s' v B' H' p r' e z => k (.val d) s' v B' H' p r' e z) kx⟩
def wLs (i : Nat) : Wt ArgV := fun s P _ => ∃ d, s.l[i]? = some (some d) ∧ P (.slot i) s
theorem vl_slot (h : PE X e (tVar i)) (ho : c.o i = true := by rfl) : VL X c e (wLs i) := by
  refine ⟨_, h, fun F B s σ H Q P E r hf k _ => ?_⟩
  obtain ⟨d, e1, q⟩ := hf
  obtain ⟨a, e2, z, _⟩ := r.own e1 ho
  exact ⟨_, e2, k (.slot i) s _ B H q r (Evl.Ex.refl _) ⟨ho, e2⟩⟩
def wLc' (f : Wt Dt) : Wt ArgV := fun s P E => f s (fun d s1 => ∃ a, d = .ref a ∧ P (.cell a) s1) E
theorem vl_cell (h : VX X c e f) : VL X c e (wLc' f) := by
  obtain ⟨te, h1, h2⟩ := h
  refine ⟨te, h1, fun F B s σ H Q P E r hf k kx => h2 F B s σ H _ _ E r hf (fun d s' v B' H' p r' e z => ?_) kx⟩
  obtain ⟨a, rfl, q⟩ := p
  cases z
  exact k (.cell a) s' _ B' H' q r' e rfl
/-- read at once -/
def wRd (f : Wt ArgV) : Wt Dt := fun s P E => f s (fun h s1 => ∃ d, valOf s1 h = some d ∧ P d s1) E
theorem vb_L {fl : Wt ArgV} (h : VL X c e fl) : VB X c e (wRd fl) := by
  obtain ⟨te, h1, h2⟩ := h
  refine ⟨te, h1, fun F B s σ H Q P E r hf k kx => h2 F B s σ H _ _ E r hf (fun h s' v B' H' p r' e z => ?_) kx⟩
  obtain ⟨d, q, p⟩ := p
  exact k d s' v B' H' p r' e (rdb_at r' z q)

/-! ### operators -/
def wOp (g : Dt → Dt → Option Dt) (fa fb : Wt Dt) : Wt Dt := fun s P E => fa s (fun x s1 => fb s1 (fun y s2 => ∃ d, g x y = some d ∧ P d s2) E) E
/-- the first is handled: it is read behind the second -/
def wOpL (g : Dt → Dt → Option Dt) (fa : Wt ArgV) (fb : Wt Dt) : Wt Dt := fun s P E => fa s (fun h s1 => fb s1 (fun y s2 => ∃ x, valOf s2 h = some x ∧ ∃ d, g x y = some d ∧ P d s2) E) E
theorem d_op {r : R2} {g : Dt → Dt → Option Dt} (hr : ∀ B H v u x y d Q, Ex B H → Rdb X.K B H v x → Rdb X.K B H u y → g x y = some d → Rep X.K B H d Q → r v u H Q) (ha : DX X.K c ta fa) (hb : DB X.K c tb fb) : DX X.K c (tOp r ta tb) (wOp g fa fb) := by
  intro F B s σ H Q P E rr hf k kx
  refine ha F B s σ H _ _ E rr hf (fun x s1 v B1 H1 p1 r1 e1 z1 => ?_) kx
  refine hb F B1 s1 σ H1 _ _ E r1 p1 (fun y s2 u B2 H2 p2 r2 e2 z2 => ?_) kx
  obtain ⟨d, hg, q⟩ := p2
  exact hr B2 H2 v u x y d Q r2.bh (.inl (z1.ex e2)) z2 hg fun w B3 H3 g3 z3 => k d s2 w B3 H3 q (r2.gr g3) (Evl.Ex.trans e1 (Evl.Ex.trans e2 g3.k1)) z3
theorem d_opL {fa : Wt ArgV} {r : R2} {g : Dt → Dt → Option Dt} (hr : ∀ B H v u x y d Q, Ex B H → Rdb X.K B H v x → Rdb X.K B H u y → g x y = some d → Rep X.K B H d Q → r v u H Q) (ha : DL X.K c ta fa) (hb : DB X.K c tb fb) : DX X.K c (tOp r ta tb) (wOpL g fa fb) := by
  intro F B s σ H Q P E rr hf k kx
  refine ha F B s σ H _ _ E rr hf (fun h s1 v B1 H1 p1 r1 e1 z1 => ?_) kx
  refine hb F B1 s1 σ H1 _ _ E r1 p1 (fun y s2 u B2 H2 p2 r2 e2 z2 => ?_) kx
  obtain ⟨x, hx, d, hg, q⟩ := p2
  exact hr B2 H2 v u x y d Q r2.bh (rdb_at r2 (z1.ex e2) hx) z2 hg fun w B3 H3 g3 z3 => k d s2 w B3 H3 q (r2.gr g3) (Evl.Ex.trans e1 (Evl.Ex.trans e2 g3.k1)) z3
theorem vx_op {op : Operator} {g : Dt → Dt → Option Dt} (hg : OpV X (binaryOp op) g) (ha : VX X c a fa) (hb : VB X c b fb) : VX X c (.BinOp a op b pos) (wOp g fa fb) := by
  obtain ⟨r, h1, h2⟩ := hg
  obtain ⟨ta, a1, a2⟩ := ha
  obtain ⟨tb, b1, b2⟩ := hb
  exact ⟨_, pe_op h1 a1 b1, d_op h2 a2 b2⟩
theorem vx_opL {fa : Wt ArgV} {op : Operator} {g : Dt → Dt → Option Dt} (hg : OpV X (binaryOp op) g) (ha : VL X c a fa) (hb : VB X c b fb) : VX X c (.BinOp a op b pos) (wOpL g fa fb) := by
  obtain ⟨r, h1, h2⟩ := hg
  obtain ⟨ta, a1, a2⟩ := ha
  obtain ⟨tb, b1, b2⟩ := hb
  exact ⟨_, pe_op h1 a1 b1, d_opL h2 a2 b2⟩
theorem vx_cmp {op : CmpOp} {g : Dt → Dt → Option Dt} (hg : OpV X (compareOp op) g) (ha : VX X c a fa) (hb : VB X c b fb) (hm : behindInMarks op b = false) : VX X c (.Compare a [op] [b] pos) (wOp g fa fb) := by
  obtain ⟨r, h1, h2⟩ := hg
  obtain ⟨ta, a1, a2⟩ := ha
  obtain ⟨tb, b1, b2⟩ := hb
  exact ⟨_, pe_cmpR h1 a1 b1 hm, d_op h2 a2 b2⟩
theorem vx_cmpL {fa : Wt ArgV} {op : CmpOp} {g : Dt → Dt → Option Dt} (hg : OpV X (compareOp op) g) (ha : VL X c a fa) (hb : VB X c b fb) (hm : behindInMarks op b = false) : VX X c (.Compare a [op] [b] pos) (wOpL g fa fb) := by
  obtain ⟨r, h1, h2⟩ := hg
  obtain ⟨ta, a1, a2⟩ := ha
  obtain ⟨tb, b1, b2⟩ := hb
  exact ⟨_, pe_cmpR h1 a1 b1 hm, d_opL h2 a2 b2⟩
/-- a truth -/
def wTst (f : Wt Dt) : Wt Bool := fun s P E => f s (fun d s1 => ∃ b, d = .bool b ∧ P b s1) E
theorem d_tst (h : DX X.K c te f) : DT X.K c (tTest te) (wTst f) := by
  intro F B s σ H Q P E rr hf k kx
  refine h F B s σ H _ _ E rr hf (fun d s1 v B1 H1 p1 r1 e1 z1 => ?_) kx
  obtain ⟨b, rfl, q⟩ := p1
  cases z1
  exact ⟨b, rfl, k b s1 B1 H1 q r1 e1⟩
theorem vt_cmp {op : CmpOp} {g : Dt → Dt → Option Dt} (hg : OpV X (compareOp op) g) (ha : VX X c a fa) (hb : VB X c b fb) (hm : behindInMarks op b = false) : VT X c (.Compare a [op] [b] pos) (wTst (wOp g fa fb)) := by
  obtain ⟨r, h1, h2⟩ := hg
  obtain ⟨ta, a1, a2⟩ := ha
  obtain ⟨tb, b1, b2⟩ := hb
  exact ⟨_, pt_cmpR h1 a1 b1 hm, d_tst (d_op h2 a2 b2)⟩
theorem vt_cmpL {fa : Wt ArgV} {op : CmpOp} {g : Dt → Dt → Option Dt} (hg : OpV X (compareOp op) g) (ha : VL X c a fa) (hb : VB X c b fb) (hm : behindInMarks op b = false) : VT X c (.Compare a [op] [b] pos) (wTst (wOpL g fa fb)) := by
  obtain ⟨r, h1, h2⟩ := hg
  obtain ⟨ta, a1, a2⟩ := ha
  obtain ⟨tb, b1, b2⟩ := hb
  exact ⟨_, pt_cmpR h1 a1 b1 hm, d_tst (d_opL h2 a2 b2)⟩
theorem vt_val (h : VX X c e f) (he : ∀ whole, isTrue e X.env whole = (do let v ← whole; standAt e.pos; holding [v] (truthy v)) := by intro _; rfl) : VT X c e (wTst f) := by
  obtain ⟨te, h1, h2⟩ := h
  refine ⟨_, pt_val h1 he, ?_⟩
  intro F B s σ H Q P E rr hf k kx
  refine h2 F B s σ H _ _ E rr hf (fun d s1 v B1 H1 p1 r1 e1 z1 => ?_) kx
  obtain ⟨b, rfl, q⟩ := p1
  cases z1
  exact ⟨b, rfl, k b s1 B1 H1 q r1 e1⟩
def wUn (g : Dt → Option Dt) (fa : Wt Dt) : Wt Dt := fun s P E => fa s (fun x s1 => ∃ d, g x = some d ∧ P d s1) E
theorem vx_un {op : UnaryOp} {g : Dt → Option Dt} (hg : UnV X (unaryOp op) g) (ha : VX X c a fa) : VX X c (.UnaryOp op a pos) (wUn g fa) := by
  obtain ⟨r, h1, h2⟩ := hg
  obtain ⟨ta, a1, a2⟩ := ha
  refine ⟨_, pe_un h1 a1, ?_⟩
  intro F B s σ H Q P E rr hf k kx
  refine a2 F B s σ H _ _ E rr hf (fun x s1 v B1 H1 p1 r1 e1 z1 => ?_) kx
  obtain ⟨d, hg, q⟩ := p1
  exact h2 B1 H1 v x d Q r1.bh (.inl z1) hg fun w B3 H3 g3 z3 => k d s1 w B3 H3 q (r1.gr g3) (Evl.Ex.trans e1 g3.k1) z3

/-! ### a < b < c -/
def wChain (g g' : Dt → Dt → Option Dt) (fa fb fc : Wt Dt) : Wt Dt := fun s P E => fa s (fun x s1 => fb s1 (fun y s2 => ∃ k, g x y = some (.bool k) ∧
  if k = true then fc s2 (fun z s3 => ∃ d, g' y z = some d ∧ P d s3) E else P (.bool false) s2) E) E
theorem vx_chain {op op' : CmpOp} {g g' : Dt → Dt → Option Dt} {cc : Expr} (hg : OpV X (compareOp op) g) (hg' : OpV X (compareOp op') g') (ha : VX X c a fa) (hb : VX X c b fb) (hc : VX X c cc fc)
    (pe : ∀ {r r' : R2} {ta tb tc : TE}, OpR X (compareOp op) r → OpR X (compareOp op') r' → PE X a ta → PE X b tb → PE X cc tc → PE X (.Compare a [op, op'] [b, cc] pos) (tChain r r' ta tb tc) := by intro _ _ _ _ _ h h' ha hb hc; exact pe_chain h h' ha hb hc) :
    VX X c (.Compare a [op, op'] [b, cc] pos) (wChain g g' fa fb fc) := by
  obtain ⟨r, h1, h2⟩ := hg
  obtain ⟨r', h1', h2'⟩ := hg'
  obtain ⟨ta, a1, a2⟩ := ha
  obtain ⟨tb, b1, b2⟩ := hb
  obtain ⟨tc, c1, c2⟩ := hc
  refine ⟨_, pe h1 h1' a1 b1 c1, ?_⟩
  intro F B s σ H Q P E rr hf k kx
  refine a2 F B s σ H _ _ E rr hf (fun x s1 v B1 H1 p1 r1 e1 z1 => ?_) kx
  refine b2 F B1 s1 σ H1 _ _ E r1 p1 (fun y s2 u B2 H2 p2 r2 e2 z2 => ?_) kx
  obtain ⟨d, hg, q⟩ := p2
  refine h2 B2 H2 v u x y _ _ r2.bh (.inl (z1.ex e2)) (.inl z2) hg fun w B3 H3 g3 z3 => ?_
  cases z3
  refine ⟨d, rfl, ?_⟩
  have r3 := r2.gr g3
  cases d with
  | false => exact k _ s2 _ B3 H3 q r3 (Evl.Ex.trans e1 (Evl.Ex.trans e2 g3.k1)) (.bl false)
  | true =>
    refine c2 F B3 s2 σ H3 _ _ E r3 q (fun z s4 w B4 H4 p4 r4 e4 z4 => ?_) kx
    obtain ⟨d, hg, q⟩ := p4
    exact h2' B4 H4 u w y z d Q r4.bh (.inl (z2.ex (Evl.Ex.trans g3.k1 e4))) (.inl z4) hg fun w B5 H5 g5 z5 => k d s4 w B5 H5 q (r4.gr g5) (Evl.Ex.trans e1 (Evl.Ex.trans e2 (Evl.Ex.trans g3.k1 (Evl.Ex.trans e4 g5.k1)))) z5
theorem vt_chain {op op' : CmpOp} {g g' : Dt → Dt → Option Dt} {cc : Expr} (hg : OpV X (compareOp op) g) (hg' : OpV X (compareOp op') g') (ha : VX X c a fa) (hb : VX X c b fb) (hc : VX X c cc fc)
    (pe : ∀ {r r' : R2} {ta tb tc : TE}, OpR X (compareOp op) r → OpR X (compareOp op') r' → PE X a ta → PE X b tb → PE X cc tc → PE X (.Compare a [op, op'] [b, cc] pos) (tChain r r' ta tb tc) := by intro _ _ _ _ _ h h' ha hb hc; exact pe_chain h h' ha hb hc)
    (pt : ∀ {r r' : R2} {ta tb tc : TE}, OpR X (compareOp op) r → OpR X (compareOp op') r' → PE X a ta → PE X b tb → PE X cc tc → PT X (.Compare a [op, op'] [b, cc] pos) (tTest (tChain r r' ta tb tc)) := by intro _ _ _ _ _ h h' ha hb hc; exact pt_chain h h' ha hb hc) :
    VT X c (.Compare a [op, op'] [b, cc] pos) (wTst (wChain g g' fa fb fc)) := by
  obtain ⟨r, h1, h2⟩ := hg
  obtain ⟨r', h1', h2'⟩ := hg'
  obtain ⟨ta, a1, a2⟩ := ha
  obtain ⟨tb, b1, b2⟩ := hb
  obtain ⟨tc, c1, c2⟩ := hc
  refine ⟨_, pt h1 h1' a1 b1 c1, d_tst ?_⟩
  intro F B s σ H Q P E rr hf k kx
  refine a2 F B s σ H _ _ E rr hf (fun x s1 v B1 H1 p1 r1 e1 z1 => ?_) kx
  refine b2 F B1 s1 σ H1 _ _ E r1 p1 (fun y s2 u B2 H2 p2 r2 e2 z2 => ?_) kx
  obtain ⟨d, hg, q⟩ := p2
  refine h2 B2 H2 v u x y _ _ r2.bh (.inl (z1.ex e2)) (.inl z2) hg fun w B3 H3 g3 z3 => ?_
  cases z3
  refine ⟨d, rfl, ?_⟩
  have r3 := r2.gr g3
  cases d with
  | false => exact k _ s2 _ B3 H3 q r3 (Evl.Ex.trans e1 (Evl.Ex.trans e2 g3.k1)) (.bl false)
  | true =>
    refine c2 F B3 s2 σ H3 _ _ E r3 q (fun z s4 w B4 H4 p4 r4 e4 z4 => ?_) kx
    obtain ⟨d, hg, q⟩ := p4
    exact h2' B4 H4 u w y z d Q r4.bh (.inl (z2.ex (Evl.Ex.trans g3.k1 e4))) (.inl z4) hg fun w B5 H5 g5 z5 => k d s4 w B5 H5 q (r4.gr g5) (Evl.Ex.trans e1 (Evl.Ex.trans e2 (Evl.Ex.trans g3.k1 (Evl.Ex.trans e4 g5.k1)))) z5

/-! ### and, or, not, if -/
def wAnd (f g : Wt Bool) : Wt Bool := fun s P E => f s (fun b s1 => if b = true then g s1 P E else P false s1) E
def wOr (f g : Wt Bool) : Wt Bool := fun s P E => f s (fun b s1 => if b = true then P true s1 else g s1 P E) E
def wNot (f : Wt Bool) : Wt Bool := fun s P E => f s (fun b s1 => P (!b) s1) E
variable {ft fu : Wt Bool} {rest : List Expr}
theorem vt_w (h : VW X c e ft) : VT X c e ft := by
  obtain ⟨te, h1, h2⟩ := h
  exact ⟨te, h1.pt, h2⟩
theorem vw_and1 (h : VT X c a ft) : VW X c (.BoolOp .And [a] pos) ft := by
  obtain ⟨te, h1, h2⟩ := h
  exact ⟨te, pw_and1 h1, h2⟩
theorem vw_or1 (h : VT X c a ft) : VW X c (.BoolOp .Or [a] pos) ft := by
  obtain ⟨te, h1, h2⟩ := h
  exact ⟨te, pw_or1 h1, h2⟩
theorem vw_and (h : VT X c a ft) (h' : VW X c (.BoolOp .And (b :: rest) pos) fu) : VW X c (.BoolOp .And (a :: b :: rest) pos) (wAnd ft fu) := by
  obtain ⟨te, h1, h2⟩ := h
  obtain ⟨te', h1', h2'⟩ := h'
  refine ⟨_, pw_and h1 h1', ?_⟩
  intro F B s σ H Q P E rr hf k kx
  refine h2 F B s σ H _ _ E rr hf (fun d s1 B1 H1 p1 r1 e1 => ?_) kx
  cases d with
  | true => exact h2' F B1 s1 σ H1 Q P E r1 p1 (fun b s2 B2 H2 p r2 e2 => k b s2 B2 H2 p r2 (Evl.Ex.trans e1 e2)) kx
  | false => exact k false s1 B1 H1 p1 r1 e1
theorem vw_or (h : VT X c a ft) (h' : VW X c (.BoolOp .Or (b :: rest) pos) fu) : VW X c (.BoolOp .Or (a :: b :: rest) pos) (wOr ft fu) := by
  obtain ⟨te, h1, h2⟩ := h
  obtain ⟨te', h1', h2'⟩ := h'
  refine ⟨_, pw_or h1 h1', ?_⟩
  intro F B s σ H Q P E rr hf k kx
  refine h2 F B s σ H _ _ E rr hf (fun d s1 B1 H1 p1 r1 e1 => ?_) kx
  cases d with
  | false => exact h2' F B1 s1 σ H1 Q P E r1 p1 (fun b s2 B2 H2 p r2 e2 => k b s2 B2 H2 p r2 (Evl.Ex.trans e1 e2)) kx
  | true => exact k true s1 B1 H1 p1 r1 e1
theorem vt_not (h : VT X c a ft) : VT X c (.UnaryOp .Not a pos) (wNot ft) := by
  obtain ⟨te, h1, h2⟩ := h
  refine ⟨_, pt_not h1, ?_⟩
  intro F B s σ H Q P E rr hf k kx
  exact h2 F B s σ H _ _ E rr hf (fun d s1 B1 H1 p1 r1 e1 => k _ s1 B1 H1 p1 r1 e1) kx
/-- .. as values -/
def wAndV (f g : Wt Dt) : Wt Dt := fun s P E => f s (fun d s1 => ∃ b, d = .bool b ∧ if b = true then g s1 P E else P (.bool false) s1) E
def wOrV (f g : Wt Dt) : Wt Dt := fun s P E => f s (fun d s1 => ∃ b, d = .bool b ∧ if b = true then P (.bool true) s1 else g s1 P E) E
def wNotV (f : Wt Dt) : Wt Dt := fun s P E => f s (fun d s1 => ∃ b, d = .bool b ∧ P (.bool (!b)) s1) E
theorem vx_one {op} (h : VX X c a fa) : VX X c (.BoolOp op [a] pos) fa := by
  obtain ⟨te, h1, h2⟩ := h
  exact ⟨te, pe_one h1, h2⟩
theorem vx_and (h : VX X c a fa) (h' : VX X c (.BoolOp .And (b :: rest) pos) fb) : VX X c (.BoolOp .And (a :: b :: rest) pos) (wAndV fa fb) := by
  obtain ⟨te, h1, h2⟩ := h
  obtain ⟨te', h1', h2'⟩ := h'
  refine ⟨_, pe_and h1 h1', ?_⟩
  intro F B s σ H Q P E rr hf k kx
  refine h2 F B s σ H _ _ E rr hf (fun d s1 v B1 H1 p1 r1 e1 z1 => ?_) kx
  obtain ⟨b, rfl, q⟩ := p1
  cases z1
  refine ⟨b, rfl, ?_⟩
  cases b with
  | true => exact h2' F B1 s1 σ H1 Q P E r1 q (fun d s2 v B2 H2 p r2 e2 z2 => k d s2 v B2 H2 p r2 (Evl.Ex.trans e1 e2) z2) kx
  | false => exact k _ s1 _ B1 H1 q r1 e1 (.bl false)
theorem vx_or (h : VX X c a fa) (h' : VX X c (.BoolOp .Or (b :: rest) pos) fb) : VX X c (.BoolOp .Or (a :: b :: rest) pos) (wOrV fa fb) := by
  obtain ⟨te, h1, h2⟩ := h
  obtain ⟨te', h1', h2'⟩ := h'
  refine ⟨_, pe_or h1 h1', ?_⟩
  intro F B s σ H Q P E rr hf k kx
  refine h2 F B s σ H _ _ E rr hf (fun d s1 v B1 H1 p1 r1 e1 z1 => ?_) kx
  obtain ⟨b, rfl, q⟩ := p1
  cases z1
  refine ⟨b, rfl, ?_⟩
  cases b with
  | false => exact h2' F B1 s1 σ H1 Q P E r1 q (fun d s2 v B2 H2 p r2 e2 z2 => k d s2 v B2 H2 p r2 (Evl.Ex.trans e1 e2) z2) kx
  | true => exact k _ s1 _ B1 H1 q r1 e1 (.bl true)
theorem vx_not (h : VX X c a fa) : VX X c (.UnaryOp .Not a pos) (wNotV fa) := by
  obtain ⟨te, h1, h2⟩ := h
  refine ⟨_, pe_not h1, ?_⟩
  intro F B s σ H Q P E rr hf k kx
  refine h2 F B s σ H _ _ E rr hf (fun d s1 v B1 H1 p1 r1 e1 z1 => ?_) kx
  obtain ⟨b, rfl, q⟩ := p1
  cases z1
  exact ⟨b, rfl, k _ s1 _ B1 H1 q r1 e1 (.bl _)⟩
def wIf (f : Wt Bool) (g h : Wt Dt) : Wt Dt := fun s P E => f s (fun b s1 => if b = true then g s1 P E else h s1 P E) E
theorem vx_if (ht : VT X c e ft) (ha : VX X c a fa) (hb : VX X c b fb) : VX X c (.IfExp e a b pos) (wIf ft fa fb) := by
  obtain ⟨te, h1, h2⟩ := ht
  obtain ⟨ta, a1, a2⟩ := ha
  obtain ⟨tb, b1, b2⟩ := hb
  refine ⟨_, pe_ifExp h1 a1 b1, ?_⟩
  intro F B s σ H Q P E rr hf k kx
  refine h2 F B s σ H _ _ E rr hf (fun d s1 B1 H1 p1 r1 e1 => ?_) kx
  cases d with
  | true => exact a2 F B1 s1 σ H1 Q P E r1 p1 (fun d s2 v B2 H2 p r2 e2 z2 => k d s2 v B2 H2 p r2 (Evl.Ex.trans e1 e2) z2) kx
  | false => exact b2 F B1 s1 σ H1 Q P E r1 p1 (fun d s2 v B2 H2 p r2 e2 z2 => k d s2 v B2 H2 p r2 (Evl.Ex.trans e1 e2) z2) kx

/-! ### rows of expressions, displays -/
def wNil : Wt (List Dt) := fun s P _ => P [] s
def wCons (f : Wt Dt) (g : Wt (List Dt)) : Wt (List Dt) := fun s P E => f s (fun d s1 => g s1 (fun ds s2 => P (d :: ds) s2) E) E
theorem va_nil : VA X c [] wNil := ⟨_, pa_nil, fun F B s σ H Q P E r hf k _ => k [] s [] B H hf r (Evl.Ex.refl _) .nil⟩
theorem va_cons (h : VX X c e f) (h' : VA X c es fl) (hs : starEach (e :: es) X.env = (false, eval e X.env) :: starEach es X.env := by rfl) : VA X c (e :: es) (wCons f fl) := by
  obtain ⟨te, h1, h2⟩ := h
  obtain ⟨te', h1', h2'⟩ := h'
  refine ⟨_, pa_cons h1 h1' hs, ?_⟩
  intro F B s σ H Q P E rr hf k kx
  refine h2 F B s σ H _ _ E rr hf (fun d s1 v B1 H1 p1 r1 e1 z1 => ?_) kx
  refine h2' F B1 s1 σ H1 _ _ E r1 p1 (fun ds s2 vs B2 H2 p2 r2 e2 z2 => ?_) kx
  exact k _ s2 _ B2 H2 p2 r2 (Evl.Ex.trans e1 e2) (.cons (z1.ex e2) z2)
def wTup (f : Wt (List Dt)) : Wt Dt := fun s P E => f s (fun ds s1 => ds.length ≤ 1000000 ∧ P (.tuple ds) s1) E
def wLst (f : Wt (List Dt)) : Wt Dt := fun s P E => f s (fun ds s1 => ds.length ≤ 1000000 ∧ P (.list ds) s1) E
theorem line_of {n : Nat} (h : n ≤ 1000000) : n ≤ sizeLine := Nat.le_of_lt (small_line h)
theorem vx_tup {x1} (h : VA X c es fl) : VX X c (.Tuple es x1 pos) (wTup fl) := by
  obtain ⟨te, h1, h2⟩ := h
  refine ⟨_, pe_tup h1, ?_⟩
  intro F B s σ H Q P E rr hf k kx
  refine h2 F B s σ H _ _ E rr hf (fun ds s1 vs B1 H1 p1 r1 e1 z1 => ?_) kx
  obtain ⟨hl, q⟩ := p1
  refine ⟨line_of (by rw [z1.len]; exact hl), fun p hp => ?_⟩
  obtain ⟨r2, e2⟩ := r1.laid (o := .tup vs) hp
  exact k _ s1 _ _ _ q r2 (Evl.Ex.trans e1 e2) (.tup (SqT.of upd_same) (z1.ex e2))
theorem vn_lst (h : VA X c es fl) : VN X c (.List es pos) (wLst fl) := by
  obtain ⟨te, h1, h2⟩ := h
  refine ⟨_, pe_lst h1, ?_⟩
  intro F B s σ H Q P E rr hf k kx
  refine h2 F B s σ H _ _ E rr hf (fun ds s1 vs B1 H1 p1 r1 e1 z1 => ?_) kx
  obtain ⟨hl, q⟩ := p1
  refine ⟨line_of (by rw [z1.len]; exact hl), fun p hp => ?_⟩
  exact k _ s1 _ _ _ q (r1.temp (o := .lst vs) hp rfl) e1 (.lst upd_same z1)

/-! ### items -/
theorem vx_ix {g : Dt → Dt → Option Dt} (hg : IxV X g) (ha : VX X c a fa) (hb : VX X c b fb) (hs : PlainIx b := by intro _ _; rfl) : VX X c (.Subscript a b pos) (wOp g fa fb) := by
  obtain ⟨r, h1, h2⟩ := hg
  obtain ⟨ta, a1, a2⟩ := ha
  obtain ⟨tb, b1, b2⟩ := vb_of hb
  exact ⟨_, pe_ix h1 a1 b1 hs, d_op h2 a2 b2⟩
theorem vx_ixL {fa : Wt ArgV} {g : Dt → Dt → Option Dt} (hg : IxV X g) (ha : VL X c a fa) (hb : VX X c b fb) (hs : PlainIx b := by intro _ _; rfl) : VX X c (.Subscript a b pos) (wOpL g fa fb) := by
  obtain ⟨r, h1, h2⟩ := hg
  obtain ⟨ta, a1, a2⟩ := ha
  obtain ⟨tb, b1, b2⟩ := vb_of hb
  exact ⟨_, pe_ix h1 a1 b1 hs, d_opL h2 a2 b2⟩

/-! ### built-ins by their names -/
def w1 (g : Dt → Option Dt) (fa : Wt Dt) : Wt Dt := wUn g fa
theorem d_c1 {r : List V → Hp → VK → Prop} {g : Dt → Option Dt} (hr : ∀ B H v x d Q, Ex B H → Rdb X.K B H v x → g x = some d → Rep X.K B H d Q → r [v] H Q) (ha : DB X.K c ta fa) : DX X.K c (tCB r (tCons ta tNil)) (wUn g fa) := by
  intro F B s σ H Q P E rr hf k kx
  refine ha F B s σ H _ _ E rr hf (fun x s1 v B1 H1 p1 r1 e1 z1 => ?_) kx
  obtain ⟨d, hg, q⟩ := p1
  exact hr B1 H1 v x d Q r1.bh z1 hg fun w B3 H3 g3 z3 => k d s1 w B3 H3 q (r1.gr g3) (Evl.Ex.trans e1 g3.k1) z3
def wCa (g : List Dt → Option Dt) (fl : Wt (List Dt)) : Wt Dt := fun s P E => fl s (fun xs s1 => ∃ d, g xs = some d ∧ P d s1) E
theorem d_ca {r : List V → Hp → VK → Prop} {g : List Dt → Option Dt} (hr : ∀ B H vs xs d Q, Ex B H → FzA X.K B vs xs → g xs = some d → Rep X.K B H d Q → r vs H Q) (ha : DA X.K c tl fl) : DX X.K c (tCB r tl) (wCa g fl) := by
  intro F B s σ H Q P E rr hf k kx
  refine ha F B s σ H _ _ E rr hf (fun x s1 v B1 H1 p1 r1 e1 z1 => ?_) kx
  obtain ⟨d, hg, q⟩ := p1
  exact hr B1 H1 v x d Q r1.bh z1 hg fun w B3 H3 g3 z3 => k d s1 w B3 H3 q (r1.gr g3) (Evl.Ex.trans e1 g3.k1) z3
end
end Dv
/-! DvStmt: statements by value. -/
namespace Dv
open PySem PySem.Spec PyProof.Rows L2 Ts
structure VEnds where
  nx : Sl → Prop
  rt : Dt → Sl → Prop
  bk : Sl → Prop
  ct : Sl → Prop
  er : Str → Sl → Prop
abbrev Ws := Sl → VEnds → Prop
structure PostS (K : PySem.W.Frag) (c : Vc) (F : Frm) (B : Hp) (V : VEnds) (D : Ends) : Prop where
  nx : ∀ s' σ' B' H', V.nx s' → SR K c F B' s' σ' H' [] → Ex B B' → D.nx σ' H'
  rt : ∀ d s' σ' v B' H', V.rt d s' → SR K c F B' s' σ' H' [] → Ex B B' → Fz K B' v d → D.rt v H'
  bk : ∀ s' σ' B' H', V.bk s' → SR K c F B' s' σ' H' [] → Ex B B' → D.bk σ' H'
  ct : ∀ s' σ' B' H', V.ct s' → SR K c F B' s' σ' H' [] → Ex B B' → D.ct σ' H'
  er : ∀ σ', PostX K c F σ' V.er
theorem PostS.ex {K : PySem.W.Frag} {c : Vc} {F : Frm} {B B1 : Hp} {V : VEnds} {D : Ends} (k : PostS K c F B V D) (e : Ex B B1) : PostS K c F B1 V D :=
  ⟨fun _ _ _ _ q r x => k.nx _ _ _ _ q r (Evl.Ex.trans e x), fun _ _ _ _ _ _ q r x => k.rt _ _ _ _ _ _ q r (Evl.Ex.trans e x), fun _ _ _ _ q r x => k.bk _ _ _ _ q r (Evl.Ex.trans e x), fun _ _ _ _ q r x => k.ct _ _ _ _ q r (Evl.Ex.trans e x), k.er⟩
def DS (K : PySem.W.Frag) (c : Vc) (ts : TS) (f : Ws) : Prop := ∀ F B s σ H D V, SR K c F B s σ H [] → f s V → PostS K c F B V D → ts D σ H
def VS (X : Cx) (c : Vc) (st : Stmt) (f : Ws) : Prop := ∃ ts, PS X st ts ∧ DS X.K c ts f
def VSs (X : Cx) (c : Vc) (sts : List Stmt) (f : Ws) : Prop := ∃ ts, PSs X sts ts ∧ DS X.K c ts f
def DG (K : PySem.W.Frag) (c : Vc) (g : TG) (f : Dt → Sl → (Sl → Prop) → Prop) : Prop := ∀ F B s σ H v d (Q : L2.St → Hp → Prop) P, SR K c F B s σ H [] → Fz K B v d → f d s P → (∀ s' σ' H', P s' → SR K c F B s' σ' H' [] → Q σ' H') → g v σ H Q
def VG (X : Cx) (c : Vc) (e : Expr) (f : Dt → Sl → (Sl → Prop) → Prop) : Prop := ∃ g, PG X e g ∧ DG X.K c g f
def DGs (K : PySem.W.Frag) (c : Vc) (g : TGs) (f : List Dt → Sl → (Sl → Prop) → Prop) : Prop := ∀ F B s σ H vs ds (Q : L2.St → Hp → Prop) P, SR K c F B s σ H [] → FzA K B vs ds → f ds s P → (∀ s' σ' H', P s' → SR K c F B s' σ' H' [] → Q σ' H') → g vs σ H Q
def VGs (X : Cx) (c : Vc) (es : List Expr) (f : List Dt → Sl → (Sl → Prop) → Prop) : Prop := ∃ g, PGs X es g ∧ DGs X.K c g f
section
variable {X : Cx} {c : Vc} {e a b : Expr} {es : List Expr} {st : Stmt} {rest sts sts' : List Stmt} {pos p : Pos} {f g h : Ws} {fa fb fe : Wt Dt} {ft : Wt Bool} {fl : Wt (List Dt)} {i j : Nat}

/-! ### blocks -/
def sNext : Ws := fun s V => V.nx s
def sSeq (f g : Ws) : Ws := fun s V => f s { V with nx := fun s' => g s' V }
def sBreak : Ws := fun s V => V.bk s
def sCont : Ws := fun s V => V.ct s
theorem vss_nil : VSs X c [] sNext := ⟨_, pss_nil, fun F B s σ H D V r hf k => k.nx _ _ _ _ hf r (Evl.Ex.refl _)⟩
theorem vss_cons (h1 : VS X c st f) (h2 : VSs X c rest g) : VSs X c (st :: rest) (sSeq f g) := by
  obtain ⟨t, p1, d1⟩ := h1
  obtain ⟨u, p2, d2⟩ := h2
  refine ⟨_, pss_cons p1 p2, ?_⟩
  intro F B s σ H D V r hf k
  exact d1 F B s σ H _ _ r hf ⟨fun s' σ' B' H' q r' e => d2 F B' s' σ' H' D V r' q (k.ex e), k.rt, k.bk, k.ct, k.er⟩
theorem vss_one (h1 : VS X c st f) : VSs X c [st] f := by
  obtain ⟨t, p1, d1⟩ := h1
  exact ⟨_, pss_one p1, d1⟩
theorem vs_pass : VS X c (.Pass pos) sNext := ⟨_, ps_pass, fun F B s σ H D V r hf k => k.nx _ _ _ _ hf r (Evl.Ex.refl _)⟩
theorem vs_break : VS X c (.Break pos) sBreak := ⟨_, ps_break, fun F B s σ H D V r hf k => k.bk _ _ _ _ hf r (Evl.Ex.refl _)⟩
theorem vs_continue : VS X c (.Continue pos) sCont := ⟨_, ps_continue, fun F B s σ H D V r hf k => k.ct _ _ _ _ hf r (Evl.Ex.refl _)⟩
def sDrop (fe : Wt Dt) : Ws := fun s V => fe s (fun _ s' => V.nx s') V.er
theorem vs_expr (he : VX X c e fe) (hs : swapsWith e none pos.line X.env = pure false := by rfl) : VS X c (.Expr e pos) (sDrop fe) := by
  obtain ⟨te, p1, d1⟩ := he
  refine ⟨_, ps_expr p1 hs, ?_⟩
  intro F B s σ H D V r hf k
  exact d1 F B s σ H _ _ _ r hf (fun d s' v B' H' q r' e _ => k.nx _ _ _ _ q r' e) (k.er σ)
def sRet (fe : Wt Dt) : Ws := fun s V => fe s V.rt V.er
theorem vs_ret (he : VX X c e fe) (h : ∀ {te : TE}, PE X e te → PS X (.Return (some e) pos) (tRet te) := by intro _ h; exact ps_ret h) : VS X c (.Return (some e) pos) (sRet fe) := by
  obtain ⟨te, p1, d1⟩ := he
  refine ⟨_, h p1, ?_⟩
  intro F B s σ H D V r hf k
  exact d1 F B s σ H _ _ _ r hf (fun d s' v B' H' q r' e z => k.rt _ _ _ _ _ _ q r' e z) (k.er σ)
def sRetN : Ws := fun s V => V.rt .none s
theorem vs_retN : VS X c (.Return none pos) sRetN := ⟨_, ps_retN, fun F B s σ H D V r hf k => k.rt _ _ _ _ _ _ hf r (Evl.Ex.refl _) .non⟩
/-- return of a slot that owns -/
def sRetO (i : Nat) : Ws := fun s V => ∃ d, s.l[i]? = some (some d) ∧ V.rt d (s.set i none)
theorem vs_retO (he : PE X e (tVar i)) (ho : c.o i = true := by rfl) (hi : c.io.contains i = false := by rfl) : VS X c (.Return (some e) pos) (sRetO i) := by
  refine ⟨_, ps_ret he, ?_⟩
  intro F B s σ H D V r hf k
  obtain ⟨d, e1, q⟩ := hf
  obtain ⟨a, e2, y, r2⟩ := r.release e1 ho hi
  obtain ⟨B', r3, e3, z⟩ := r2.frz y
  exact ⟨_, e2, k.rt _ _ _ _ _ _ q r3 e3 z⟩
/-- return of a slot that owns: as a cell -/
def sRetC (i : Nat) : Ws := fun s V => ∃ d, s.l[i]? = some (some d) ∧ ∀ a, s.cs a = none → V.rt (.ref a) ((s.set i none).cell a (some d))
theorem vs_retC (he : PE X e (tVar i)) (ho : c.o i = true := by rfl) : VS X c (.Return (some e) pos) (sRetC i) := by
  refine ⟨_, ps_ret he, ?_⟩
  intro F B s σ H D V r hf k
  obtain ⟨d, e1, q⟩ := hf
  obtain ⟨a, e2, r2⟩ := r.slotCell e1 ho
  refine ⟨_, e2, k.rt _ _ _ _ _ _ (q a ?_) r2 (Evl.Ex.refl _) (.ref a)⟩
  cases w : s.cs a with
  | none => rfl
  | some x => exact absurd ⟨⟨d, e1⟩, ho, e2⟩ ((r.cl a x w).2.2 i)
/-- return of a new thing: as a cell -/
theorem vs_retN2 (he : VN X c e fe) : VS X c (.Return (some e) pos) (sRet (wCell fe)) := vs_ret (vx_cell he)
def sIf (ft : Wt Bool) (f g : Ws) : Ws := fun s V => ft s (fun b s' => if b = true then f s' V else g s' V) V.er
theorem vs_if (ht : VT X c e ft) (h1 : VSs X c sts f) (h2 : VSs X c sts' g) : VS X c (.If e sts sts' pos) (sIf ft f g) := by
  obtain ⟨tt, p0, d0⟩ := ht
  obtain ⟨t, p1, d1⟩ := h1
  obtain ⟨u, p2, d2⟩ := h2
  refine ⟨_, ps_if p0 p1 p2, ?_⟩
  intro F B s σ H D V r hf k
  refine d0 F B s σ H _ _ _ r hf (fun b s' B' H' q r' e => ?_) (k.er σ)
  cases b with
  | true => exact d1 F B' s' σ H' D V r' q (k.ex e)
  | false => exact d2 F B' s' σ H' D V r' q (k.ex e)

/-! ### stores -/
def gNm (i : Nat) : Dt → Sl → (Sl → Prop) → Prop := fun d s P => P (s.set i (some d))
theorem vg_name (hg : PG X e (gName i)) (ho : c.o i = false := by rfl) (hi : c.io.contains i = false := by rfl) : VG X c e (gNm i) := by
  refine ⟨_, hg, ?_⟩
  intro F B s σ H v d Q P r z hf k
  exact k _ _ _ hf (r.setF z ho hi)
def gNl : List Dt → Sl → (Sl → Prop) → Prop := fun ds s P => ds = [] ∧ P s
def gCn (f : Dt → Sl → (Sl → Prop) → Prop) (g : List Dt → Sl → (Sl → Prop) → Prop) : List Dt → Sl → (Sl → Prop) → Prop := fun ds s P => ∃ d r, ds = d :: r ∧ f d s fun s' => g r s' P
theorem dgs_nil : DGs X.K c gNil gNl := by
  intro F B s σ H vs ds Q P r z hf k
  obtain ⟨rfl, q⟩ := hf
  cases z
  exact ⟨rfl, k _ _ _ q r⟩
def gTp (g : List Dt → Sl → (Sl → Prop) → Prop) : Dt → Sl → (Sl → Prop) → Prop := fun d s P => ∃ ds, d = .tuple ds ∧ g ds s P
/-- a, b = e, of a tuple: names alone -/
def gNms : List Nat → List Dt → Sl → (Sl → Prop) → Prop
  | [], ds, s, P => ds = [] ∧ P s
  | i :: r, ds, s, P => ∃ d es, ds = d :: es ∧ gNms r es (s.set i (some d)) P
def tgNms : List Nat → TGs
  | [] => gNil
  | i :: r => gCons (gName i) (tgNms r)
theorem dgs_nms : ∀ {is : List Nat}, (∀ i ∈ is, c.o i = false ∧ c.io.contains i = false) → ∀ {F B s σ H vs ds} {Q : L2.St → Hp → Prop} {P}, SR X.K c F B s σ H [] → FzA X.K B vs ds → gNms is ds s P → (∀ s' σ' H', P s' → SR X.K c F B s' σ' H' [] → Q σ' H') → tgNms is vs σ H Q ∧ vs.length = is.length
  | [], _, F, B, s, σ, H, vs, ds, Q, P, r, z, hf, k => by
    obtain ⟨rfl, q⟩ := hf
    cases z
    exact ⟨⟨rfl, k _ _ _ q r⟩, rfl⟩
  | i :: is, hi, F, B, s, σ, H, vs, ds, Q, P, r, z, hf, k => by
    obtain ⟨d, es, rfl, q⟩ := hf
    cases z with
    | cons z zs =>
      obtain ⟨h1, h2⟩ := hi i (by simp)
      obtain ⟨a, b⟩ := dgs_nms (fun j m => hi j (List.mem_cons_of_mem _ m)) (r.setF z h1 h2) zs q k
      exact ⟨⟨_, _, rfl, a⟩, congrArg Nat.succ b⟩
def gTpN (is : List Nat) : Dt → Sl → (Sl → Prop) → Prop := fun d s P => ∃ ds, d = .tuple ds ∧ gNms is ds s P
theorem vg_tup {is : List Nat} (hg : PG X e (gTup X.K is.length (tgNms is))) (hi : ∀ i ∈ is, c.o i = false ∧ c.io.contains i = false := by decide) : VG X c e (gTpN is) := by
  refine ⟨_, hg, ?_⟩
  intro F B s σ H v d Q P r z hf k
  obtain ⟨ds, rfl, q⟩ := hf
  obtain ⟨a, xs, rfl, h1, h2⟩ := (Rdb.of (H := H) z).tuple r.bh
  obtain ⟨w1, w2⟩ := dgs_nms hi r h2 q k
  exact ⟨a, xs, rfl, h1, w2, w1⟩
def gTpL (is : List Nat) : Dt → Sl → (Sl → Prop) → Prop := fun d s P => ∃ ds, d = .list ds ∧ gNms is ds s P
/-- a, b = e, of a list -/
theorem vg_lst {is : List Nat} (hg : PG X e (gLst X.K is.length (tgNms is))) (hi : ∀ i ∈ is, c.o i = false ∧ c.io.contains i = false := by decide) : VG X c e (gTpL is) := by
  refine ⟨_, hg, ?_⟩
  intro F B s σ H v d Q P r z hf k
  obtain ⟨ds, rfl, q⟩ := hf
  obtain ⟨a, xs, rfl, h1, h2⟩ := (Rdb.of (H := H) z).list r.bh
  obtain ⟨w1, w2⟩ := dgs_nms hi r h2 q k
  exact ⟨a, xs, rfl, SqL.of h1, w2, w1⟩
def sAsg (fe : Wt Dt) (g : Dt → Sl → (Sl → Prop) → Prop) : Ws := fun s V => fe s (fun d s' => g d s' V.nx) V.er
theorem vs_asg {gt : Dt → Sl → (Sl → Prop) → Prop} (he : VX X c e fe) (hg : VG X c a gt) (h : ∀ {te : TE} {g : TG}, PE X e te → PG X a g → PS X st (tAsg te g)) : VS X c st (sAsg fe gt) := by
  obtain ⟨te, p1, d1⟩ := he
  obtain ⟨g, p2, d2⟩ := hg
  refine ⟨_, h p1 p2, ?_⟩
  intro F B s σ H D V r hf k
  exact d1 F B s σ H _ _ _ r hf (fun d s' v B' H' q r' e z => d2 F B' s' σ H' v d _ _ r' z q fun s2 σ2 H2 q2 r2 => k.nx _ _ _ _ q2 r2 e) (k.er σ)
/-- x = e -/
def sSet (i : Nat) (fe : Wt Dt) : Ws := fun s V => fe s (fun d s' => V.nx (s'.set i (some d))) V.er
theorem vs_set (he : VX X c e fe) (h : ∀ {te : TE}, PE X e te → PS X st (tAsg te (gName i))) (ho : c.o i = false := by rfl) (hi : c.io.contains i = false := by rfl) : VS X c st (sSet i fe) := by
  obtain ⟨te, p1, d1⟩ := he
  refine ⟨_, h p1, ?_⟩
  intro F B s σ H D V r hf k
  exact d1 F B s σ H _ _ _ r hf (fun d s' v B' H' q r' e z => k.nx _ _ _ _ q (r'.setF z ho hi) e) (k.er σ)
/-- x = a new list -/
theorem vs_setN (he : VN X c e fe) (h : ∀ {te : TE}, PE X e te → PS X st (tAsg te (gName i))) (ho : c.o i = true := by rfl) (hi : c.io.contains i = false := by rfl) : VS X c st (sSet i fe) := by
  obtain ⟨te, p1, d1⟩ := he
  refine ⟨_, h p1, ?_⟩
  intro F B s σ H D V r hf k
  exact d1 F B s σ H _ _ _ r hf (fun d s' a B' H' q r' e z => k.nx _ _ _ _ q (r'.setO z ho hi) e) (k.er σ)

/-- x = a call whose value is a cell: it becomes the slot's -/
def sTake (i : Nat) (fe : Wt Dt) : Ws := fun s V => fe s (fun d s' => ∃ a x, d = .ref a ∧ s'.cs a = some x ∧ V.nx ((s'.set i (some x)).cell a none)) V.er
theorem vs_take (he : VX X c e fe) (h : ∀ {te : TE}, PE X e te → PS X st (tAsg te (gName i))) (ho : c.o i = true := by rfl) (hi : c.io.contains i = false := by rfl) : VS X c st (sTake i fe) := by
  obtain ⟨te, p1, d1⟩ := he
  refine ⟨_, h p1, ?_⟩
  intro F B s σ H D V r hf k
  refine d1 F B s σ H _ _ _ r hf (fun d s' v B' H' q r' e z => ?_) (k.er σ)
  obtain ⟨a, x, rfl, h1, q⟩ := q
  cases z
  exact k.nx _ _ _ _ q (r'.takeCell h1 ho hi) e

/-! ### while, for -/
def sWhile (ft : Wt Bool) (fb : Ws) : Ws := fun s V => ∃ I : Nat → Sl → Prop, (∃ m, I m s) ∧ ∀ m s, I m s → ft s (fun b s1 => if b = true then
  fb s1 { V with nx := fun s' => ∃ m', m' < m ∧ I m' s', ct := fun s' => ∃ m', m' < m ∧ I m' s', bk := V.nx } else V.nx s1) V.er
theorem vs_while (ht : VT X c e ft) (hb : VSs X c sts f) (h : ∀ {tt : TT} {tb : TS}, PT X e tt → PSs X sts tb → PS X (.While e sts [] pos) (tWhile tt tb)) : VS X c (.While e sts [] pos) (sWhile ft f) := by
  obtain ⟨tt, p0, d0⟩ := ht
  obtain ⟨t, p1, d1⟩ := hb
  refine ⟨_, h p0 p1, ?_⟩
  intro F B s σ H D V r hf k
  obtain ⟨I, ⟨m0, i0⟩, turn⟩ := hf
  refine ⟨fun m σ H => ∃ B2 s, SR X.K c F B2 s σ H [] ∧ Ex B B2 ∧ I m s, ⟨m0, B, s, r, Evl.Ex.refl _, i0⟩, ?_⟩
  rintro m σ H ⟨B2, s, r, e2, im⟩
  refine d0 F B2 s σ H _ _ _ r (turn m s im) (fun b s1 B1 H1 q r1 e1 => ?_) (k.er σ)
  have e3 := Evl.Ex.trans e2 e1
  cases b with
  | false => exact k.nx _ _ _ _ q r1 e3
  | true =>
    refine ⟨fun σ' H' => ∃ m', m' < m ∧ ∃ B2 s, SR X.K c F B2 s σ' H' [] ∧ Ex B B2 ∧ I m' s, fun σ' H' x => ?_, ?_⟩
    · obtain ⟨m', hm, x⟩ := x
      exact ⟨m', hm, x⟩
    · refine d1 F B1 s1 σ H1 _ _ r1 q ⟨fun s' σ' B' H' q r' e => ?_, fun _ _ _ _ _ _ q r e => k.rt _ _ _ _ _ _ q r (Evl.Ex.trans e3 e), fun s' σ' B' H' q r' e => k.nx _ _ _ _ q r' (Evl.Ex.trans e3 e), fun s' σ' B' H' q r' e => ?_, k.er⟩
      · obtain ⟨m', hm, x⟩ := q
        exact ⟨m', hm, B', s', r', Evl.Ex.trans e3 e, x⟩
      · obtain ⟨m', hm, x⟩ := q
        exact ⟨m', hm, B', s', r', Evl.Ex.trans e3 e, x⟩
/-- what is walked: the things that come, one behind the other; they stand still -/
def DI (K : PySem.W.Frag) (c : Vc) (wi : TI) (f : Wt (List Dt)) : Prop := ∀ F B s σ H (R : It → Hp → Prop) P E, SR K c F B s σ H [] → f s P E →
  (∀ ds s' B' H' J G Y, P ds s' → SR K c F B' s' σ H' [] → Ex B B' → Walk J ds.length G Y → (∀ B2 H2, Ex B' B2 → Ex B2 H2 → G H2) →
    (∀ i B2 H2 x H3, Ex B' B2 → Ex B2 H2 → Y i H2 x H3 → ∃ d B3, ds[i]? = some d ∧ Gr B2 H2 B3 H3 ∧ Fz K B3 x d) → R J H') → PostX K c F σ E → wi σ H R
def VI (X : Cx) (c : Vc) (tg it : Expr) (f : Wt (List Dt)) : Prop := ∃ wi, PI X tg it wi ∧ DI X.K c wi f
def sFor (fi : Wt (List Dt)) (gt : Dt → Sl → (Sl → Prop) → Prop) (fb : Ws) : Ws := fun s V => fi s (fun ds s0 => ∃ I : Nat → Sl → Prop, I 0 s0 ∧ (∀ i s d, ds[i]? = some d → I i s → gt d s fun s1 =>
  fb s1 { V with nx := I (i + 1), ct := I (i + 1), bk := V.nx }) ∧ ∀ s, I ds.length s → V.nx s) V.er
theorem vs_for {tg it : Expr} {fi : Wt (List Dt)} {gt : Dt → Sl → (Sl → Prop) → Prop} (hi : VI X c tg it fi) (hg : VG X c tg gt) (hb : VSs X c sts f)
    (h : ∀ {wi : TI} {g : TG} {tb : TS}, PI X tg it wi → PG X tg g → PSs X sts tb → PS X (.For tg it sts [] pos) (tFor wi g tb)) : VS X c (.For tg it sts [] pos) (sFor fi gt f) := by
  obtain ⟨wi, p0, d0⟩ := hi
  obtain ⟨g, p1, d1⟩ := hg
  obtain ⟨tb, p2, d2⟩ := hb
  refine ⟨_, h p0 p1 p2, ?_⟩
  intro F B s σ H D V r hf k
  refine d0 F B s σ H _ _ _ r hf (fun ds s' B' H' J G Y p r' e' w hG hY => ?_) (k.er σ)
  obtain ⟨I, i0, turn, done⟩ := p
  refine for_it w (fun i σ H => ∃ B2 s2, SR X.K c F B2 s2 σ H [] ∧ Ex B' B2 ∧ I i s2) ⟨B', s', r', Evl.Ex.refl _, i0⟩ (fun i σ H _ q => ?_) (fun i x σ2 H2 H3 hi q y => ?_) (fun σ H q => ?_)
  · obtain ⟨B2, s2, r2, e2, _⟩ := q
    exact hG B2 H e2 r2.bh
  · obtain ⟨B2, s2, r2, e2, q⟩ := q
    obtain ⟨d, B3, hd, g3, z⟩ := hY i B2 H2 x H3 e2 r2.bh y
    refine d1 F B3 s2 σ2 H3 x d _ _ (r2.gr g3) z (turn i s2 d hd q) fun s4 σ4 H4 q4 r4 => ?_
    have e3 := Evl.Ex.trans e2 g3.k1
    have e4 := Evl.Ex.trans e' e3
    exact d2 F B3 s4 σ4 H4 _ _ r4 q4 ⟨fun s5 σ5 B5 H5 q5 r5 e5 => ⟨B5, s5, r5, Evl.Ex.trans e3 e5, q5⟩, fun _ _ _ _ _ _ q r e => k.rt _ _ _ _ _ _ q r (Evl.Ex.trans e4 e),
      fun s5 σ5 B5 H5 q5 r5 e5 => k.nx _ _ _ _ q5 r5 (Evl.Ex.trans e4 e5), fun s5 σ5 B5 H5 q5 r5 e5 => ⟨B5, s5, r5, Evl.Ex.trans e3 e5, q5⟩, k.er⟩
  · obtain ⟨B2, s2, r2, e2, q⟩ := q
    exact k.nx _ _ _ _ (done s2 q) r2 (Evl.Ex.trans e' e2)
end
end Dv
/-! DvFun: what a def promises by value; calls. -/
namespace Dv
open PySem PySem.Spec PyProof.Rows L2 Ts
/-- what is wanted of a def: of the arguments and the cells; of the value, what the changed ones hold and the cells; of an error and what they hold then -/
abbrev Fs := List Dt → Cells → (Dt → List Dt → Cells → Prop) → (Str → List Dt → Cells → Prop) → Prop
/-- one that lets the cells be -/
def pS (S : List Dt → (Dt → List Dt → Prop) → (Str → List Dt → Prop) → Prop) : Fs := fun ds cs P E => S ds (fun d o => P d o cs) fun n o => E n o cs
/-- what a call may change -/
def Cha (io : List Nat) (vs : List V) (cs : Cells) (a : Addr) : Prop := (∃ i ∈ io, vs[i]? = some (.ref a)) ∨ ∃ d, cs a = some d
structure Ags (K : PySem.W.Frag) (T : Tbs) (B H : Hp) (io : List Nat) (vs : List V) (ds : List Dt) (cs : Cells) : Prop where
  len : vs.length = ds.length
  bh : Ex B H
  tb : TbOk T B H
  at_ : ∀ (i : Nat) (d : Dt), ds[i]? = some d → ∃ v, vs[i]? = some v ∧ ((i ∉ io ∧ Fz K B v d) ∨ (i ∈ io ∧ ∃ a, v = .ref a ∧ Own K B H a d ∧ B a = none))
  dj : ∀ i ∈ io, ∀ j ∈ io, ∀ a, vs[i]? = some (.ref a) → vs[j]? = some (.ref a) → i = j
  cl : ∀ a d, cs a = some d → Own K B H a d ∧ B a = none ∧ ∀ i ∈ io, vs[i]? ≠ some (.ref a)
structure Rts (K : PySem.W.Frag) (T : Tbs) (B H : Hp) (io : List Nat) (vs : List V) (cs : Cells) (B' H' : Hp) (outs : List Dt) (cs' : Cells) : Prop where
  k1 : Ex B B'
  k2 : Ex B' H'
  k3 : ∀ a, PN H a → ¬ Cha io vs cs a → B' a = B a
  th : ∀ a, PN H a → PN H' a
  fr : ∀ a o, H a = some o → nt o = true → ¬ Cha io vs cs a → H' a = some o
  tb : TbOk T B' H'
  len : outs.length = io.length
  outs : ∀ (m i : Nat) (d : Dt), io[m]? = some i → outs[m]? = some d → ∃ a, vs[i]? = some (.ref a) ∧ Own K B' H' a d ∧ B' a = none
  cl : ∀ a d, cs' a = some d → Own K B' H' a d ∧ B' a = none ∧ (Cha io vs cs a ∨ ¬ PN H a) ∧ ∀ i ∈ io, vs[i]? ≠ some (.ref a)
def spV (K : PySem.W.Frag) (T : Tbs) (n : Nat) (io : List Nat) (S : Fs) : Sp := fun vs H Q E => ∃ ds cs B P Er, vs.length = n ∧ Ags K T B H io vs ds cs ∧ S ds cs P Er ∧
  (∀ d outs cs' v B' H', P d outs cs' → Rts K T B H io vs cs B' H' outs cs' → Fz K B' v d → Q v H') ∧ ∀ x outs cs' B' H', Er x outs cs' → Rts K T B H io vs cs B' H' outs cs' → E (.ref (He.ga K x)) none H'
def outsOf (s : List (Option Dt)) : List Nat → Option (List Dt)
  | [] => some []
  | i :: r => match s[i]?, outsOf s r with
    | some (some d), some ds => some (d :: ds)
    | _, _ => none
theorem outsOf_len {s : List (Option Dt)} : ∀ {io : List Nat} {outs : List Dt}, outsOf s io = some outs → outs.length = io.length
  | [], _, h => by cases h; rfl
  | i :: r, outs, h => by
    unfold outsOf at h
    split at h
    · rename_i d ds h1 h2
      cases h
      exact congrArg Nat.succ (outsOf_len h2)
    · cases h
theorem outsOf_get {s : List (Option Dt)} : ∀ {io : List Nat} {outs : List Dt} {m i : Nat} {d : Dt}, outsOf s io = some outs → io[m]? = some i → outs[m]? = some d → s[i]? = some (some d)
  | [], _, _, _, _, _, h, _ => by simp at h
  | j :: r, outs, m, i, d, h, h1, h2 => by
    unfold outsOf at h
    split at h
    · rename_i e es q1 q2
      cases h
      cases m with
      | zero =>
        simp at h1 h2
        rw [← h1, ← h2]
        exact q1
      | succ m => exact outsOf_get q2 (by simpa using h1) (by simpa using h2)
    · cases h
theorem outsOf_all {s : List (Option Dt)} : ∀ {io : List Nat} {outs : List Dt} {i : Nat}, outsOf s io = some outs → i ∈ io → ∃ d, s[i]? = some (some d)
  | [], _, _, _, h => by cases h
  | j :: r, outs, i, h, m => by
    unfold outsOf at h
    split at h
    · rename_i e es q1 q2
      rcases List.mem_cons.mp m with z | z
      · exact ⟨e, by rw [z]; exact q1⟩
      · exact outsOf_all q2 z
    · cases h
/-- the entry of a body -/
abbrev fr0 (H B : Hp) (io : List Nat) (vs : List V) (cs : Cells) : Frm := ⟨H, B, Cha io vs cs, fun i => if i ∈ io then vs[i]? else none⟩
/-- behind a body -/
theorem SR.rts {K : PySem.W.Frag} {c : Vc} {H0 B0 B : Hp} {s : Sl} {σ : L2.St} {H : Hp} {outs : List Dt} {vs : List V} {cs : Cells} (r : SR K c (fr0 H0 B0 c.io vs cs) B s σ H []) (hio : ∀ i ∈ c.io, c.o i = true)
    (hlt : ∀ i ∈ c.io, i < vs.length) (ho : outsOf s.l c.io = some outs) : Rts K c.T B0 H0 c.io vs cs B H outs s.cs := by
  have own : ∀ i ∈ c.io, ∀ d, s.l[i]? = some (some d) → ∃ a, vs[i]? = some (.ref a) ∧ Own K B H a d ∧ OS c s σ i a := fun i m d q => by
    obtain ⟨a, e, y, os⟩ := r.own q (hio i m)
    have e1 := List.getElem?_eq_getElem (hlt i m)
    have e2 := (r.io i _ (show (if i ∈ c.io then vs[i]? else none) = _ by rw [if_pos m]; exact e1)).2
    rw [e] at e2
    exact ⟨a, e1.trans (Option.some.inj e2).symm, y, os⟩
  refine ⟨r.eb, r.bh, r.b0, r.th, r.fr, r.tb, outsOf_len ho, fun m i d e1 e2 => ?_, fun a d q => ?_⟩
  · obtain ⟨a, q1, q2, q3⟩ := own i (List.mem_of_getElem? e1) d (outsOf_get ho e1 e2)
    exact ⟨a, q1, q2, (r.ow i a q3).1⟩
  · obtain ⟨y, ⟨f1, f2, _⟩, n⟩ := r.cl a d q
    refine ⟨y, f1, f2, fun i m e => ?_⟩
    obtain ⟨d', q'⟩ := outsOf_all ho m
    obtain ⟨a', q1, q2, q3⟩ := own i m d' q'
    rw [e] at q1
    cases q1
    exact n i q3
/-- the slots at the entry -/
def st0 (n : Nat) (ds : List Dt) : List (Option Dt) := ds.map some ++ List.replicate (n - ds.length) none
theorem st0_get {n : Nat} {ds : List Dt} {i : Nat} {d : Dt} (h : (st0 n ds)[i]? = some (some d)) : ds[i]? = some d := by
  unfold st0 at h
  by_cases hi : i < ds.length
  · rw [List.getElem?_append_left (by rw [List.length_map]; exact hi), List.getElem?_map] at h
    cases e : ds[i]? with
    | none => rw [e] at h; cases h
    | some x => rw [e] at h; cases h; rfl
  · rw [List.getElem?_append_right (by rw [List.length_map]; omega)] at h
    rw [List.getElem?_replicate] at h
    split at h
    · cases h
    · cases h
section
variable {P : Program} {w : World} {K : PySem.W.Frag} {mg : Str → Option Value} {base : Heap} {T : Tbs}
/-- the ends of a body -/
def vends (io : List Nat) (P : Dt → List Dt → Cells → Prop) (Er : Str → List Dt → Cells → Prop) : VEnds :=
  ⟨fun s => ∃ outs, outsOf s.l io = some outs ∧ P .none outs s.cs, fun d s => ∃ outs, outsOf s.l io = some outs ∧ P d outs s.cs, fun _ => False, fun _ => False, fun x s => ∃ outs, outsOf s.l io = some outs ∧ Er x outs s.cs⟩
theorem okV {d : He.DefD} {fd : FuncData} {N ps : List Str} {k : Nat} (o : Nat → Bool) (io : List Nat) (S : Fs) (F : FunD K d.name d.qual d.params d.body d.scope [] [] (He.fAd K d.at_) fd) (Sc : FnScope N ps d.scope)
    (hb : BindsP ps d) (hio : io.all (fun i => o i && decide (i < ps.length)) = true) (ho : (List.range ps.length).all (fun i => io.contains i || !o i) = true) (hN : ps.length ≤ N.length)
    (hf : ∃ f : Ws, (∀ (cdv : Value), cdv = .ref (He.codeOf K d.at_) → ∀ (A : Around) (outer : List Env) (s : Shared) (H : Hp) (E : XK), GRoom k (A.deeper (envOfC d.qual d.scope s.heap.objs.size (He.fAd K d.at_) cdv)) →
      VSs (bodyCx P w K mg base N d cdv A outer s H E) ⟨o, io, fun cls d _ H => E cls d H, T⟩ d.body f) ∧
      ∀ ds cs Q Er, ds.length = ps.length → S ds cs Q Er → f ⟨st0 N.length ds, cs⟩ (vends io Q Er)) :
    GFn P w K mg base (k + 1) (He.fAd K d.at_) ps (spV K T ps.length io S) := by
  obtain ⟨f, hbody, hS⟩ := hf
  have hio' : ∀ i ∈ io, o i = true ∧ i < ps.length := fun i m => by
    have := List.all_eq_true.mp hio i m
    simpa using this
  have ho' : ∀ i, i < ps.length → i ∉ io → o i = false := fun i hi m => by
    have := List.all_eq_true.mp ho i (List.mem_range.mpr hi)
    cases e : o i with
    | false => rfl
    | true =>
      rw [e] at this
      simp at this
      exact absurd this m
  refine okXc F Sc (fun vs H Q E h => ?_) hb fun cdv hcdv A outer s H vs Q E hr h => ?_
  · obtain ⟨_, _, _, _, _, h, _⟩ := h
    exact h
  obtain ⟨ds, cs, B, Pw, Er, hl, ag, hS', hQ, hE⟩ := h
  obtain ⟨t, p, dd⟩ := hbody cdv hcdv A outer s H E hr
  have hld : ds.length = ps.length := ag.len.symm.trans hl
  have start : ∀ {i : Nat} {v : V}, vs[i]? = some v → (L2.start N vs)[i]? = some (some v) := fun {i v} h => by
    have hi : i < vs.length := (List.getElem?_eq_some_iff.mp h).1
    unfold L2.start
    rw [List.getElem?_append_left (by rw [List.length_map]; exact hi), List.getElem?_map, h]
    rfl
  have os : ∀ {i a}, OS ⟨o, io, fun cls d _ H => E cls d H, T⟩ ⟨st0 N.length ds, cs⟩ (L2.start N vs) i a → i ∈ io ∧ vs[i]? = some (.ref a) ∧ B a = none := fun {i a} ⟨⟨d, q⟩, oi, e⟩ => by
    have q := st0_get q
    have hi : i < ps.length := by
      have := (List.getElem?_eq_some_iff.mp q).1
      omega
    have mi : i ∈ io := by
      by_cases m : i ∈ io
      · exact m
      · have := ho' i hi m
        rw [show o i = true from oi] at this; cases this
    obtain ⟨v, e2, ⟨z, _⟩ | ⟨_, b, rfl, _, z⟩⟩ := ag.at_ i d q
    · exact absurd mi z
    · rw [start e2] at e
      cases e
      exact ⟨mi, e2, z⟩
  have r0 : SR K ⟨o, io, fun cls d _ H => E cls d H, T⟩ (fr0 H B io vs cs) B ⟨st0 N.length ds, cs⟩ (L2.start N vs) H [] := by
    refine ⟨by simp [st0, L2.start, ag.len], ag.bh, Evl.Ex.refl _, fun _ _ _ => rfl, fun _ h => h, fun _ _ h _ _ => h, fun i v h => ?_, fun a h => ?_, ag.tb, fun _ m => (by cases m), fun i d h => ?_, fun i a h => ?_, fun i j a h1 h2 => ?_, fun a d h => ?_⟩
    · have h : (if i ∈ io then vs[i]? else none) = some v := h
      by_cases m : i ∈ io
      · rw [if_pos m] at h
        exact ⟨m, start h⟩
      · rw [if_neg m] at h; cases h
    · rcases h with ⟨i, m, h⟩ | ⟨d, h⟩
      · have hi : i < ds.length := by
          rw [hld]; exact (hio' i m).2
        obtain ⟨v, e, ⟨z, _⟩ | ⟨_, b, rfl, z, _⟩⟩ := ag.at_ i _ (List.getElem?_eq_getElem hi)
        · exact absurd m z
        · rw [h] at e
          cases e
          exact z.pn
      · exact (ag.cl a d h).1.pn
    · have q := st0_get h
      obtain ⟨v, e, z⟩ := ag.at_ i d q
      have hi : i < vs.length := (List.getElem?_eq_some_iff.mp e).1
      refine ⟨v, start e, ?_⟩
      rcases z with ⟨m, z⟩ | ⟨m, a, e, z, _⟩
      · exact .inl ⟨ho' i (by omega) m, z⟩
      · exact .inr ⟨(hio' i m).1, a, e, z⟩
    · obtain ⟨m, e, z⟩ := os h
      exact ⟨z, .inl (.inl ⟨i, m, e⟩), fun z => (by cases z)⟩
    · obtain ⟨m1, e1, _⟩ := os h1
      obtain ⟨m2, e2, _⟩ := os h2
      exact ag.dj i m1 j m2 a e1 e2
    · obtain ⟨z1, z2, z3⟩ := ag.cl a d h
      refine ⟨z1, ⟨z2, .inl (.inr ⟨d, h⟩), fun z => (by cases z)⟩, fun i x => ?_⟩
      obtain ⟨m, e, _⟩ := os x
      exact z3 i m e
  have fin : ∀ {B' s' σ' H' outs}, SR K ⟨o, io, fun cls d _ H => E cls d H, T⟩ (fr0 H B io vs cs) B' s' σ' H' [] → outsOf s'.l io = some outs → Rts K T B H io vs cs B' H' outs s'.cs := fun {B' s' σ' H' outs} r q =>
    r.rts (fun i m => (hio' i m).1) (fun i m => by rw [hl]; exact (hio' i m).2) q
  refine ⟨t, p, dd _ B _ _ H _ (vends io Pw Er) r0 (hS ds cs Pw Er hld hS') ⟨fun s' σ' B' H' q r' e => ?_, fun d s' σ' v B' H' q r' e z => ?_, fun _ _ _ _ q => q.elim, fun _ _ _ _ q => q.elim, fun σ' n s' B' H' q r' => ?_⟩⟩
  · obtain ⟨outs, h1, h2⟩ := q
    exact hQ _ outs _ _ B' H' h2 (fin r' h1) .non
  · obtain ⟨outs, h1, h2⟩ := q
    exact hQ d outs _ v B' H' h2 (fin r' h1) z
  · obtain ⟨outs, h1, h2⟩ := q
    exact hE n outs _ B' H' h2 (fin r' h1)
end
/-- behind what may change cells alone -/
theorem SR.back0 {K : PySem.W.Frag} {c : Vc} {F : Frm} {B H B' H' : Hp} {s : Sl} {σ : L2.St} {outs : List Dt} {vs : List V} {cs' : Cells} (r : SR K c F B s σ H []) (R : Rts K c.T B H [] vs s.cs B' H' outs cs') : SR K c F B' ⟨s.l, cs'⟩ σ H' [] := by
  have cha : ∀ {a}, Cha [] vs s.cs a → ∃ d, s.cs a = some d := fun {a} h => by
    rcases h with ⟨i, m, _⟩ | h
    · cases m
    · exact h
  have nch : ∀ {a}, PN F.H0 a → ¬ F.A0 a → ¬ Cha [] vs s.cs a := fun h na q => by
    obtain ⟨d, e⟩ := cha q
    exact (r.cl _ d e).2.1.2.1.elim na fun w => w h
  have keep : ∀ {i a}, OS c s σ i a → ¬ Cha [] vs s.cs a := fun {i a} h q => by
    obtain ⟨d, e⟩ := cha q
    exact (r.cl _ d e).2.2 i h
  refine ⟨r.len, R.k2, Evl.Ex.trans r.eb R.k1, fun a h na => (R.k3 a (r.th a h) (nch h na)).trans (r.b0 a h na), fun a h => R.th a (r.th a h), fun a o h n na => R.fr a o (r.fr a o h n na) n (nch ⟨o, h, n⟩ na), r.io, r.a0, R.tb, fun _ m => (by cases m), fun i d q => ?_, fun i a h => ?_, r.dj, fun a d q => ?_⟩
  · obtain ⟨v, e, ⟨y, z⟩ | ⟨y, a, rfl, z⟩⟩ := r.sl i d q
    · exact ⟨v, e, .inl ⟨y, z.ex R.k1⟩⟩
    · obtain ⟨o, eo, no⟩ := z.pn
      exact ⟨_, e, .inr ⟨y, a, rfl, z.mono R.k1 ((R.fr a o eo no (keep ⟨⟨d, q⟩, y, e⟩)).trans eo.symm)⟩⟩
  · obtain ⟨f1, f2, f3⟩ := r.ow i a h
    obtain ⟨d, _, z⟩ := r.os h
    exact ⟨(R.k3 a z.pn (keep h)).trans f1, f2, f3⟩
  · obtain ⟨y1, y2, y3, _⟩ := R.cl a d q
    refine ⟨y1, ⟨y2, ?_, fun m => (by cases m)⟩, fun i x => ?_⟩
    · rcases y3 with y3 | y3
      · obtain ⟨d', e⟩ := cha y3
        exact (r.cl _ d' e).2.1.2.1
      · exact .inr fun w => y3 (r.th a w)
    · obtain ⟨d', _, z⟩ := r.os x
      exact y3.elim (keep x) fun w => w z.pn
/-- what is promised where no argument is changed is promised of the cells -/
theorem SR.ags0 {K : PySem.W.Frag} {c : Vc} {F : Frm} {B H : Hp} {s : Sl} {σ : L2.St} (r : SR K c F B s σ H []) : Ags K c.T B H [] [] [] s.cs :=
  ⟨rfl, r.bh, r.tb, fun i d h => (by simp at h), fun i m => (by cases m), fun a d h => ⟨(r.cl a d h).1, (r.cl a d h).2.1.1, fun i m => (by cases m)⟩⟩
/-! ### calls -/
inductive AgR (K : PySem.W.Frag) (c : Vc) (B : Hp) (σ : L2.St) : List V → List ArgV → Prop
  | nil : AgR K c B σ [] []
  | cons {v : V} {h : ArgV} {vs : List V} {as : List ArgV} : AgAt K c B σ v h → AgR K c B σ vs as → AgR K c B σ (v :: vs) (h :: as)
def PostR (K : PySem.W.Frag) (c : Vc) (F : Frm) (B : Hp) (σ : L2.St) (P : List ArgV → Sl → Prop) (Q : List V → Hp → Prop) : Prop := ∀ ds s' vs B' H', P ds s' → SR K c F B' s' σ H' [] → Ex B B' → AgR K c B' σ vs ds → Q vs H'
def DR (K : PySem.W.Frag) (c : Vc) (te : TA) (f : Wt (List ArgV)) : Prop := ∀ F B s σ H Q P E, SR K c F B s σ H [] → f s P E → PostR K c F B σ P Q → PostX K c F σ E → te σ H Q
def VR (X : Cx) (c : Vc) (es : List Expr) (f : Wt (List ArgV)) : Prop := ∃ te, PA X es te ∧ DR X.K c te f
section
variable {K : PySem.W.Frag} {c : Vc} {B B' : Hp} {σ : L2.St}
theorem AgR.ex (k : Ex B B') : ∀ {vs : List V} {as : List ArgV}, AgR K c B σ vs as → AgR K c B' σ vs as
  | _, _, .nil => .nil
  | _, _, .cons h t => .cons (h.ex k) (AgR.ex k t)
theorem AgR.len : ∀ {vs : List V} {as : List ArgV}, AgR K c B σ vs as → vs.length = as.length
  | _, _, .nil => rfl
  | _, _, .cons _ t => congrArg Nat.succ (AgR.len t)
theorem AgR.get : ∀ {vs : List V} {as : List ArgV} {i : Nat} {a : ArgV}, AgR K c B σ vs as → as[i]? = some a → ∃ v, vs[i]? = some v ∧ AgAt K c B σ v a
  | _, _, i, a, .nil, h => by simp at h
  | _, _, 0, a, .cons z t, h => by
    simp at h
    subst h
    exact ⟨_, rfl, z⟩
  | _, _, i + 1, a, .cons z t, h => by
    obtain ⟨v, h1, h2⟩ := AgR.get (i := i) t (by simpa using h)
    exact ⟨v, by simpa using h1, h2⟩
end
def valsOf (s : Sl) : List ArgV → Option (List Dt)
  | [] => some []
  | a :: r => match valOf s a, valsOf s r with
    | some d, some ds => some (d :: ds)
    | _, _ => none
theorem valsOf_get {s : Sl} : ∀ {as : List ArgV} {ds : List Dt}, valsOf s as = some ds → as.length = ds.length ∧ ∀ (i : Nat) (d : Dt), ds[i]? = some d → ∃ a, as[i]? = some a ∧ valOf s a = some d
  | [], ds, h => by
    cases h
    exact ⟨rfl, fun i d e => by simp at e⟩
  | x :: r, ds, h => by
    unfold valsOf at h
    split at h
    · rename_i y es q1 q2
      cases h
      obtain ⟨h1, h2⟩ := valsOf_get q2
      refine ⟨congrArg Nat.succ h1, fun i d q => ?_⟩
      cases i with
      | zero =>
        simp at q
        exact ⟨x, rfl, q ▸ q1⟩
      | succ i =>
        obtain ⟨a, w1, w2⟩ := h2 i d (by simpa using q)
        exact ⟨a, by simpa using w1, w2⟩
    · cases h
def plcsOf (as : List ArgV) : List Nat → Option (List Plc)
  | [] => some []
  | i :: r => match (as[i]?).bind plc, plcsOf as r with
    | some p, some ps => some (p :: ps)
    | _, _ => none
theorem plcsOf_get {as : List ArgV} : ∀ {io : List Nat} {ps : List Plc}, plcsOf as io = some ps → ps.length = io.length ∧ ∀ (m i : Nat), io[m]? = some i → ∃ p a, ps[m]? = some p ∧ as[i]? = some a ∧ plc a = some p
  | [], ps, h => by
    cases h
    exact ⟨rfl, fun m i e => by simp at e⟩
  | j :: r, ps, h => by
    unfold plcsOf at h
    split at h
    · rename_i p qs q1 q2
      cases h
      obtain ⟨h1, h2⟩ := plcsOf_get q2
      refine ⟨congrArg Nat.succ h1, fun m i q => ?_⟩
      cases m with
      | zero =>
        simp at q
        subst q
        cases e : as[j]? with
        | none => rw [e] at q1; cases q1
        | some a => rw [e] at q1; exact ⟨p, a, rfl, e.symm ▸ rfl, q1⟩
      | succ m =>
        obtain ⟨p', a, w1, w2, w3⟩ := h2 m i (by simpa using q)
        exact ⟨p', a, by simpa using w1, w2, w3⟩
    · cases h
def argsOk (io : List Nat) (as : List ArgV) : Bool := (List.range as.length).all fun i => io.contains i || (match as[i]? with | some (.val _) => true | _ => false)
/-- what is handed in to be changed is put back -/
def putP : List Plc → List Dt → Sl → Sl
  | .inl k :: ks, d :: ds, s => putP ks ds (s.set k (some d))
  | .inr a :: ks, d :: ds, s => putP ks ds (s.cell a (some d))
  | _, _, s => s
/-- the other cells -/
def delP : List Plc → Cells → Cells
  | [], cs => cs
  | .inl _ :: r, cs => delP r cs
  | .inr a :: r, cs => delP r (cput cs a none)
theorem delP_get : ∀ {ps : List Plc} {cs : Cells} {a : Addr} {d : Dt}, delP ps cs a = some d → cs a = some d ∧ Sum.inr a ∉ ps
  | [], _, _, _, h => ⟨h, fun m => (by cases m)⟩
  | .inl k :: r, cs, a, d, h => by
    obtain ⟨h1, h2⟩ := delP_get (ps := r) h
    exact ⟨h1, fun m => by simp at m; exact h2 m⟩
  | .inr b :: r, cs, a, d, h => by
    obtain ⟨h1, h2⟩ := delP_get (ps := r) h
    by_cases e : a = b
    · rw [e, cput_same] at h1; cases h1
    · rw [cput_ne e] at h1
      refine ⟨h1, fun m => ?_⟩
      simp at m
      exact m.elim e h2
theorem putP_len : ∀ {ks : List Plc} {ds : List Dt} {s : Sl}, (putP ks ds s).l.length = s.l.length
  | [], [], s => rfl
  | [], _ :: _, s => rfl
  | .inl k :: _, [], s => rfl
  | .inr k :: _, [], s => rfl
  | .inl k :: ks, d :: ds, s => by
    show (putP ks ds (s.set k (some d))).l.length = s.l.length
    rw [putP_len]
    exact List.length_set ..
  | .inr k :: ks, d :: ds, s => by
    show (putP ks ds (s.cell k (some d))).l.length = s.l.length
    rw [putP_len]
    rfl
theorem putP_get : ∀ {ks : List Plc} {ds : List Dt} {s : Sl} {j : Nat} {d : Dt}, ks.Nodup → ks.length = ds.length → (putP ks ds s).l[j]? = some (some d) → (∃ m : Nat, ks[m]? = some (.inl j) ∧ ds[m]? = some d) ∨ (Sum.inl j ∉ ks ∧ s.l[j]? = some (some d))
  | [], [], s, j, d, _, _, h => .inr ⟨fun m => (by cases m), h⟩
  | [], _ :: _, s, j, d, _, e, _ => by cases e
  | _ :: _, [], s, j, d, _, e, _ => by cases e
  | .inl k :: ks, x :: ds, s, j, d, nd, e, h => by
    obtain ⟨n1, n2⟩ := List.nodup_cons.mp nd
    rcases putP_get n2 (Nat.succ.inj e) h with ⟨m, h1, h2⟩ | ⟨h1, h2⟩
    · exact .inl ⟨m + 1, by simpa using h1, by simpa using h2⟩
    · rcases set_get h2 with ⟨rfl, rfl, _⟩ | ⟨ne, q⟩
      · exact .inl ⟨0, rfl, rfl⟩
      · exact .inr ⟨fun m => (List.mem_cons.mp m).elim (fun z => ne (Sum.inl.inj z)) h1, q⟩
  | .inr k :: ks, x :: ds, s, j, d, nd, e, h => by
    obtain ⟨n1, n2⟩ := List.nodup_cons.mp nd
    rcases putP_get n2 (Nat.succ.inj e) h with ⟨m, h1, h2⟩ | ⟨h1, h2⟩
    · exact .inl ⟨m + 1, by simpa using h1, by simpa using h2⟩
    · exact .inr ⟨fun m => (List.mem_cons.mp m).elim (fun z => (by cases z)) h1, h2⟩
theorem putP_cs : ∀ {ks : List Plc} {ds : List Dt} {s : Sl} {a : Addr} {d : Dt}, ks.Nodup → ks.length = ds.length → (putP ks ds s).cs a = some d → (∃ m : Nat, ks[m]? = some (.inr a) ∧ ds[m]? = some d) ∨ (Sum.inr a ∉ ks ∧ s.cs a = some d)
  | [], [], s, j, d, _, _, h => .inr ⟨fun m => (by cases m), h⟩
  | [], _ :: _, s, j, d, _, e, _ => by cases e
  | _ :: _, [], s, j, d, _, e, _ => by cases e
  | .inl k :: ks, x :: ds, s, a, d, nd, e, h => by
    obtain ⟨n1, n2⟩ := List.nodup_cons.mp nd
    rcases putP_cs n2 (Nat.succ.inj e) h with ⟨m, h1, h2⟩ | ⟨h1, h2⟩
    · exact .inl ⟨m + 1, by simpa using h1, by simpa using h2⟩
    · exact .inr ⟨fun m => (List.mem_cons.mp m).elim (fun z => (by cases z)) h1, h2⟩
  | .inr k :: ks, x :: ds, s, a, d, nd, e, h => by
    obtain ⟨n1, n2⟩ := List.nodup_cons.mp nd
    rcases putP_cs n2 (Nat.succ.inj e) h with ⟨m, h1, h2⟩ | ⟨h1, h2⟩
    · exact .inl ⟨m + 1, by simpa using h1, by simpa using h2⟩
    · have h2 : cput s.cs k (some x) a = some d := h2
      by_cases z : a = k
      · rw [z, cput_same] at h2
        cases h2
        exact .inl ⟨0, by rw [z]; rfl, rfl⟩
      · rw [cput_ne z] at h2
        exact .inr ⟨fun m => (List.mem_cons.mp m).elim (fun w => z (Sum.inr.inj w)) h1, h2⟩
theorem get_of_mem {α : Type} {l : List α} {k : α} (h : k ∈ l) : ∃ m : Nat, l[m]? = some k := List.mem_iff_getElem?.mp h
section
variable {X : Cx} {c : Vc} {e a b : Expr} {es : List Expr} {pos p : Pos} {f fe : Wt Dt} {fr : Wt (List ArgV)} {i j k : Nat} {g : Addr} {ps : List Str} {S : Fs} {io : List Nat} {x : Str}
def wNilR : Wt (List ArgV) := fun s P _ => P [] s
def wConsR (f : Wt ArgV) (g : Wt (List ArgV)) : Wt (List ArgV) := fun s P E => f s (fun d s1 => g s1 (fun ds s2 => P (d :: ds) s2) E) E
theorem vr_nil : VR X c [] wNilR := ⟨_, pa_nil, fun F B s σ H Q P E r hf k _ => k [] s [] B H hf r (Evl.Ex.refl _) .nil⟩
theorem vr_cons {fl : Wt ArgV} (h : VL X c e fl) (h' : VR X c es fr) (hs : starEach (e :: es) X.env = (false, eval e X.env) :: starEach es X.env := by rfl) : VR X c (e :: es) (wConsR fl fr) := by
  obtain ⟨te, h1, h2⟩ := h
  obtain ⟨te', h1', h2'⟩ := h'
  refine ⟨_, pa_cons h1 h1' hs, ?_⟩
  intro F B s σ H Q P E rr hf k kx
  refine h2 F B s σ H _ _ E rr hf (fun d s1 v B1 H1 p1 r1 e1 z1 => ?_) kx
  refine h2' F B1 s1 σ H1 _ _ E r1 p1 (fun ds s2 vs B2 H2 p2 r2 e2 z2 => ?_) kx
  exact k _ s2 _ B2 H2 p2 r2 (Evl.Ex.trans e1 e2) (.cons (z1.ex e2) z2)
/-- the call itself -/
def wCore (n : Nat) (io : List Nat) (S : Fs) (as : List ArgV) : Wt Dt := fun s1 P E => ∃ ds ps, as.length = n ∧ valsOf s1 as = some ds ∧ plcsOf as io = some ps ∧ ps.Nodup ∧ argsOk io as = true ∧
  S ds (delP ps s1.cs) (fun d outs cs' => P d (putP ps outs ⟨s1.l, cs'⟩)) (fun n outs cs' => E n (putP ps outs ⟨s1.l, cs'⟩))
theorem d_core {F : Frm} {B1 H1 : Hp} {s1 : Sl} {σ : L2.St} {n : Nat} {as : List ArgV} {vs : List V} {Q : VK} {P : Dt → Sl → Prop} {Er : Str → Sl → Prop} {E : XK} (hE : ∀ cls d H, c.W cls d σ H → E cls d H) (r1 : SR X.K c F B1 s1 σ H1 []) (z1 : AgR X.K c B1 σ vs as)
    (p1 : wCore n io S as s1 P Er) (k : PostE X.K c F B1 σ P Q) (kx : PostX X.K c F σ Er) : spV X.K c.T n io S vs H1 Q E := by
  obtain ⟨ds, ps, hln, hds, hps, nd, hok, hS⟩ := p1
  obtain ⟨g1, g2⟩ := plcsOf_get hps
  obtain ⟨v1, v2⟩ := valsOf_get hds
  -- the m-th changed argument: its place and its thing
  have atM : ∀ {m i : Nat}, io[m]? = some i → ∃ p a d, ps[m]? = some p ∧ vs[i]? = some (.ref a) ∧ ds[i]? = some d ∧ Own X.K B1 H1 a d ∧ FrA F B1 [] a ∧
      ((∃ j, p = .inl j ∧ OS c s1 σ j a) ∨ (p = .inr a ∧ s1.cs a = some d)) := fun {m i} h => by
    obtain ⟨p, a, w1, w2, w3⟩ := g2 m i h
    have hi : i < as.length := (List.getElem?_eq_some_iff.mp w2).1
    have hd : ds[i]? = some (ds[i]'(by omega)) := List.getElem?_eq_getElem (by omega)
    obtain ⟨a', y1, y2⟩ := v2 i _ hd
    rw [w2] at y1
    cases y1
    obtain ⟨v, u1, u2⟩ := z1.get w2
    cases a with
    | val d => cases w3
    | slot j =>
      cases w3
      obtain ⟨b, q1, q2, q3⟩ := r1.own (valOf_slot y2) u2.1
      have e2 := u2.2
      rw [q1] at e2
      cases e2
      exact ⟨_, b, _, w1, u1, hd, q2, r1.ow j b q3, .inl ⟨j, rfl, q3⟩⟩
    | cell b =>
      cases w3
      have u2 : v = .ref b := u2
      subst u2
      obtain ⟨q1, q2, _⟩ := r1.cl b _ y2
      exact ⟨_, b, _, w1, u1, hd, q1, q2, .inr ⟨rfl, y2⟩⟩
  have ixP : ∀ {m : Nat} {p : Plc}, ps[m]? = some p → ∃ i, io[m]? = some i := fun {m p} h => by
    have hm : m < io.length := by
      have := (List.getElem?_eq_some_iff.mp h).1
      omega
    exact ⟨_, List.getElem?_eq_getElem hm⟩
  -- what may be changed is told of
  have cha : ∀ {a}, Cha io vs (delP ps s1.cs) a → PN H1 a ∧ FrA F B1 [] a ∧ ((∃ j, Sum.inl j ∈ ps ∧ OS c s1 σ j a) ∨ ∃ d, s1.cs a = some d) := fun {a} h => by
    rcases h with ⟨i, hi, h⟩ | ⟨d, h⟩
    · obtain ⟨m, e⟩ := get_of_mem hi
      obtain ⟨p, b, d, w1, w2, _, w3, w4, w5⟩ := atM e
      rw [h] at w2
      cases w2
      refine ⟨w3.pn, w4, ?_⟩
      rcases w5 with ⟨j, rfl, w⟩ | ⟨rfl, w⟩
      · exact .inl ⟨j, List.mem_of_getElem? w1, w⟩
      · exact .inr ⟨d, w⟩
    · obtain ⟨h1, _⟩ := delP_get h
      obtain ⟨q1, q2, _⟩ := r1.cl a d h1
      exact ⟨q1.pn, q2, .inr ⟨d, h1⟩⟩
  have ag : Ags X.K c.T B1 H1 io vs ds (delP ps s1.cs) := by
    refine ⟨z1.len.trans v1, r1.bh, r1.tb, fun i d hd => ?_, fun i hi j hj a h1 h2 => ?_, fun a d h => ?_⟩
    · by_cases hi : i ∈ io
      · obtain ⟨m, e⟩ := get_of_mem hi
        obtain ⟨p, a, d', w1, w2, w3, w4, w5, _⟩ := atM e
        rw [hd] at w3
        cases w3
        exact ⟨_, w2, .inr ⟨hi, a, rfl, w4, w5.1⟩⟩
      · obtain ⟨a, w1, w2⟩ := v2 i d hd
        have hlt : i < as.length := (List.getElem?_eq_some_iff.mp w1).1
        have ok := List.all_eq_true.mp hok i (List.mem_range.mpr hlt)
        have hc : io.contains i = false := by
          cases e : io.contains i with
          | false => rfl
          | true => exact absurd (List.contains_iff_mem.mp e) hi
        rw [hc, Bool.false_or, w1] at ok
        obtain ⟨v, y1, y2⟩ := z1.get w1
        cases a with
        | val d' =>
          have w2 : some d' = some d := w2
          cases w2
          exact ⟨v, y1, .inl ⟨hi, y2⟩⟩
        | slot j => cases ok
        | cell j => cases ok
    · obtain ⟨m, e⟩ := get_of_mem hi
      obtain ⟨m', e'⟩ := get_of_mem hj
      obtain ⟨p, b, d, w1, w2, _, _, _, w5⟩ := atM e
      obtain ⟨p', b', d', w1', w2', _, _, _, w5'⟩ := atM e'
      rw [h1] at w2
      rw [h2] at w2'
      cases w2
      cases w2'
      have hp : p = p' := by
        rcases w5 with ⟨k1, rfl, q⟩ | ⟨rfl, q⟩
        · rcases w5' with ⟨k2, rfl, q'⟩ | ⟨rfl, q'⟩
          · rw [r1.dj k1 k2 a q q']
          · exact absurd q ((r1.cl a _ q').2.2 k1)
        · rcases w5' with ⟨k2, rfl, q'⟩ | ⟨rfl, q'⟩
          · exact absurd q' ((r1.cl a _ q).2.2 k2)
          · rfl
      rw [← hp] at w1'
      have hm1 : m < ps.length := (List.getElem?_eq_some_iff.mp w1).1
      have hm : m = m' := (List.getElem?_inj hm1 nd).mp (by rw [w1, w1'])
      rw [← hm, e] at e'
      exact Option.some.inj e'
    · obtain ⟨h1, h2⟩ := delP_get h
      obtain ⟨q1, q2, q3⟩ := r1.cl a d h1
      refine ⟨q1, q2.1, fun i hi e => ?_⟩
      obtain ⟨m, em⟩ := get_of_mem hi
      obtain ⟨p, b, d', w1, w2, _, _, _, w5⟩ := atM em
      rw [e] at w2
      cases w2
      rcases w5 with ⟨j, rfl, w⟩ | ⟨rfl, w⟩
      · exact q3 j w
      · exact h2 (List.mem_of_getElem? w1)
  -- the slots and cells behind the call
  have back : ∀ {outs cs' B' H'}, Rts X.K c.T B1 H1 io vs (delP ps s1.cs) B' H' outs cs' → SR X.K c F B' (putP ps outs ⟨s1.l, cs'⟩) σ H' [] := fun {outs cs' B' H'} R => by
    have hlo : ps.length = outs.length := by rw [R.len, g1]
    have nch : ∀ {a}, PN F.H0 a → ¬ F.A0 a → ¬ Cha io vs (delP ps s1.cs) a := fun h na q => (cha q).2.1.2.1.elim na fun w => w h
    have osx : ∀ {i a}, OS c (putP ps outs ⟨s1.l, cs'⟩) σ i a → OS c s1 σ i a := fun {i a} ⟨⟨d, q⟩, oi, e⟩ => by
      rcases putP_get nd hlo q with ⟨m, h1, h2⟩ | ⟨_, q⟩
      · obtain ⟨i', hi⟩ := ixP h1
        obtain ⟨p, b, d', w1, w2, _, _, _, w5⟩ := atM hi
        rw [h1] at w1
        cases w1
        rcases w5 with ⟨j, ej, w⟩ | ⟨ej, _⟩
        · cases ej
          exact ⟨w.1, oi, e⟩
        · cases ej
      · exact ⟨⟨d, q⟩, oi, e⟩
    have keep : ∀ {i a}, OS c s1 σ i a → Sum.inl i ∉ ps → ¬ Cha io vs (delP ps s1.cs) a := fun {i a} h ni q => by
      rcases (cha q).2.2 with ⟨j, w1, w2⟩ | ⟨d, w⟩
      · rw [r1.dj j i a w2 h] at w1
        exact ni w1
      · exact (r1.cl a d w).2.2 i h
    refine ⟨putP_len.trans r1.len, R.k2, Evl.Ex.trans r1.eb R.k1, fun a h na => (R.k3 a (r1.th a h) (nch h na)).trans (r1.b0 a h na), fun a h => R.th a (r1.th a h), fun a o h n na => R.fr a o (r1.fr a o h n na) n (nch ⟨o, h, n⟩ na), r1.io, r1.a0, R.tb, fun _ m => (by cases m), fun i d q => ?_, fun i a h => ?_, fun i j a h1 h2 => r1.dj i j a (osx h1) (osx h2), fun a d q => ?_⟩
    · rcases putP_get nd hlo q with ⟨m, h1, h2⟩ | ⟨ni, q⟩
      · obtain ⟨i', hi⟩ := ixP h1
        obtain ⟨p, b, d', w1, w2, _, _, _, w5⟩ := atM hi
        obtain ⟨b', y1, y2, y3⟩ := R.outs m i' d hi h2
        rw [h1] at w1
        cases w1
        rw [w2] at y1
        cases y1
        rcases w5 with ⟨j, ej, w⟩ | ⟨ej, _⟩
        · cases ej
          exact ⟨_, w.2.2, .inr ⟨w.2.1, b, rfl, y2⟩⟩
        · cases ej
      · obtain ⟨v, e, ⟨y, z⟩ | ⟨y, a, rfl, z⟩⟩ := r1.sl i d q
        · exact ⟨v, e, .inl ⟨y, z.ex R.k1⟩⟩
        · obtain ⟨o, eo, no⟩ := z.pn
          exact ⟨_, e, .inr ⟨y, a, rfl, z.mono R.k1 ((R.fr a o eo no (keep ⟨⟨d, q⟩, y, e⟩ ni)).trans eo.symm)⟩⟩
    · have h1 := osx h
      obtain ⟨f1, f2, f3⟩ := r1.ow i a h1
      refine ⟨?_, f2, f3⟩
      obtain ⟨⟨d, q⟩, oi, e⟩ := h
      rcases putP_get nd hlo q with ⟨m, h1', h2⟩ | ⟨ni, q⟩
      · obtain ⟨i', hi⟩ := ixP h1'
        obtain ⟨p, b, d', w1, w2, _, _, _, w5⟩ := atM hi
        obtain ⟨b', y1, y2, y3⟩ := R.outs m i' d hi h2
        rw [h1'] at w1
        cases w1
        rw [w2] at y1
        cases y1
        rcases w5 with ⟨j, ej, w⟩ | ⟨ej, _⟩
        · cases ej
          have := w.2.2
          rw [e] at this
          cases this
          exact y3
        · cases ej
      · obtain ⟨d', _, z⟩ := r1.os h1
        rw [R.k3 a z.pn (keep h1 ni)]
        exact f1
    · rcases putP_cs nd hlo q with ⟨m, h1, h2⟩ | ⟨ni, q⟩
      · obtain ⟨i', hi⟩ := ixP h1
        obtain ⟨p, b, d', w1, w2, _, _, _, w5⟩ := atM hi
        obtain ⟨b', y1, y2, y3⟩ := R.outs m i' d hi h2
        rw [h1] at w1
        cases w1
        rw [w2] at y1
        cases y1
        rcases w5 with ⟨j, ej, w⟩ | ⟨ej, w⟩
        · cases ej
        · cases ej
          obtain ⟨q1, ⟨_, f2, f3⟩, n⟩ := r1.cl a d' w
          exact ⟨y2, ⟨y3, f2, f3⟩, fun i x => n i (osx x)⟩
      · have q : cs' a = some d := q
        obtain ⟨y1, y2, y3, y4⟩ := R.cl a d q
        refine ⟨y1, ⟨y2, ?_, fun m => (by cases m)⟩, fun i x => ?_⟩
        · rcases y3 with y3 | y3
          · exact (cha y3).2.1.2.1
          · exact .inr fun w => y3 (r1.th a w)
        · have x1 := osx x
          obtain ⟨d', _, z⟩ := r1.os x1
          rcases y3 with y3 | y3
          · rcases (cha y3).2.2 with ⟨j, w1, w2⟩ | ⟨d2, w⟩
            · obtain ⟨m, em⟩ := get_of_mem w1
              obtain ⟨i', hi⟩ := ixP em
              obtain ⟨p, b, d3, u1, u2, _, _, _, u5⟩ := atM hi
              rw [em] at u1
              cases u1
              rcases u5 with ⟨j', ej, u⟩ | ⟨ej, _⟩
              · cases ej
                have := u.2.2
                rw [w2.2.2] at this
                cases this
                exact y4 i' (List.mem_of_getElem? hi) u2
              · cases ej
            · exact (r1.cl a d2 w).2.2 i x1
          · exact y3 z.pn
  refine ⟨ds, _, B1, _, _, by rw [z1.len]; exact hln, ag, hS, fun d outs cs' v B' H' q R z => ?_, fun x outs cs' B' H' q R => ?_⟩
  · exact k d _ v B' H' q (back R) R.k1 z
  · exact hE _ _ _ (kx x _ B' H' q (back R))
def wCall (n : Nat) (io : List Nat) (S : Fs) (fr : Wt (List ArgV)) : Wt Dt := fun s P E => fr s (fun as s1 => wCore n io S as s1 P E) E
theorem d_call {n : Nat} {ta : TA} {E : L2.St → XK} (hE : ∀ σ cls d H, c.W cls d σ H → E σ cls d H) (ha : DR X.K c ta fr) : DX X.K c (tCallS (spV X.K c.T n io S) E ta) (wCall n io S fr) := by
  intro F B s σ H Q P Er rr hf k kx
  refine ha F B s σ H _ _ Er rr hf (fun as s1 vs B1 H1 p1 r1 e1 z1 => ?_) kx
  exact d_core (hE σ) r1 z1 p1 (fun d s' v B' H' q r' e z => k d s' v B' H' q r' (Evl.Ex.trans e1 e) z) kx
/-- f(e, ..) -/
theorem vx_call0 {k : Nat} {f : Addr} {pos : Pos} (G : GFn X.prog X.w X.K X.mg X.base k f ps (spV X.K c.T 0 io S)) (hr : GRoom k X.A) (hm : X.mg x = some (.ref f)) (hx : ∀ σ, PassesAt (L2.CX X.prog X.w) X σ (WE c.W σ)) (hg : Gl X x := by rfl) (hdb : (x == ("__debug__" : Str)) = false := by decide) :
    VX X c (.Call (.Name x p) [] [] pos) (wCall 0 io S wNilR) :=
  ⟨_, gc0 (E := WE c.W) G hr hm hx hg hdb, d_call (fun _ _ _ _ h => h) fun F B s σ H Q P E r hf k _ => k [] s [] B H hf r (Evl.Ex.refl _) .nil⟩
theorem vx_call {k n : Nat} {f : Addr} {pos : Pos} (G : GFn X.prog X.w X.K X.mg X.base k f ps (spV X.K c.T n io S)) (hr : GRoom k X.A) (hm : X.mg x = some (.ref f)) (hx : ∀ σ, PassesAt (L2.CX X.prog X.w) X σ (WE c.W σ)) (ha : VR X c (e :: es) fr) (hg : Gl X x := by rfl) (hdb : (x == ("__debug__" : Str)) = false := by decide)
    (he : starEach (e :: es) X.env = (false, eval e X.env) :: starEach es X.env := by rfl) (hpl : (backTo pos (starEach es X.env)).any (·.1) = false := by rfl) : VX X c (.Call (.Name x p) (e :: es) [] pos) (wCall n io S fr) := by
  obtain ⟨ta, a1, a2⟩ := ha
  exact ⟨_, gc (E := WE c.W) G hr hm hx a1 hg hdb he hpl, d_call (fun _ _ _ _ h => h) a2⟩
end
end Dv
/-! DvOps: the operations by value. -/
namespace Dv
open PySem PySem.Spec PyProof.Rows L2 Ts
section
variable {X : Cx}
def gI (f : Int → Int → Option Dt) : Dt → Dt → Option Dt
  | .int a, .int b => f a b
  | _, _ => none
theorem opI0V {f : Value → Value → Sem Value} {g : Int → Int → V} {g' : Int → Int → Dt} (h : OpR X f (rI0 g)) (hg : ∀ B i j, Fz X.K B (g i j) (g' i j)) : OpV X f (gI fun a b => some (g' a b)) := by
  refine ⟨_, h, fun B H v u x y d Q bh hx hy hd k => ?_⟩
  unfold gI at hd
  split at hd
  · cases hx.int
    cases hy.int
    cases hd
    exact ⟨_, _, rfl, rfl, k _ B H (Gr.refl bh) (hg _ _ _)⟩
  · cases hd
theorem opIV {f : Value → Value → Sem Value} {C : Int → Int → Prop} {D : Int → Int → Bool} {g : Int → Int → V} {g' : Int → Int → Dt} (h : OpR X f (rI C g)) (hC : ∀ i j, D i j = true → C i j) (hg : ∀ B i j, Fz X.K B (g i j) (g' i j)) :
    OpV X f (gI fun a b => if D a b = true then some (g' a b) else none) := by
  refine ⟨_, h, fun B H v u x y d Q bh hx hy hd k => ?_⟩
  unfold gI at hd
  split at hd
  · cases hx.int
    cases hy.int
    dsimp only at hd
    split at hd
    · rename_i hc
      cases hd
      exact ⟨_, _, rfl, rfl, hC _ _ hc, k _ B H (Gr.refl bh) (hg _ _ _)⟩
    · cases hd
  · cases hd
def gAdd := gI fun a b => some (.int (a + b))
def gSub := gI fun a b => some (.int (a - b))
def mulB (a b : Int) : Bool := (decide (-(2 ^ 64) < a) && decide (a < 2 ^ 64)) || (decide (-(2 ^ 64) < b) && decide (b < 2 ^ 64))
def gMul := gI fun a b => if mulB a b = true then some (.int (a * b)) else none
def divB (_ b : Int) : Bool := decide (0 < b) && decide (b < 1073741824)
def gDiv := gI fun a b => if divB a b = true then some (.int (a / b)) else none
def modB (_ b : Int) : Bool := decide (0 < b)
def gMod := gI fun a b => if modB a b = true then some (.int (a % b)) else none
def powB (a b : Int) : Bool := decide (0 ≤ b) && (decide (b ≤ 1000000) && decide (a.natAbs < 2 ^ 64))
def gPow := gI fun a b => if powB a b = true then some (.int (a ^ b.toNat)) else none
def gLt := gI fun a b => some (.bool (decide (a < b)))
def gLe := gI fun a b => some (.bool (decide (a ≤ b)))
def gGt := gI fun a b => some (.bool (decide (b < a)))
def gGe := gI fun a b => some (.bool (decide (b ≤ a)))
theorem oAdd : OpV X (binaryOp .Add) gAdd := opI0V op_add fun _ _ _ => .int _
theorem oSub : OpV X (binaryOp .Sub) gSub := opI0V op_sub fun _ _ _ => .int _
theorem mulB_ok {i j : Int} (h : mulB i j = true) : CMul i j := by
  unfold mulB at h
  rcases Bool.or_eq_true _ _ ▸ h with q | q <;> rw [Bool.and_eq_true] at q
  · exact .inl ⟨of_decide_eq_true q.1, of_decide_eq_true q.2⟩
  · exact .inr ⟨of_decide_eq_true q.1, of_decide_eq_true q.2⟩
theorem oMul : OpV X (binaryOp .Mult) gMul := opIV op_mul (fun _ _ => mulB_ok) fun _ _ _ => .int _
theorem oDiv : OpV X (binaryOp .FloorDiv) gDiv := opIV op_fdiv (fun i j h => by
  unfold divB at h
  rw [Bool.and_eq_true] at h
  exact ⟨of_decide_eq_true h.1, of_decide_eq_true h.2⟩) fun _ _ _ => .int _
theorem oMod : OpV X (binaryOp .Mod) gMod := opIV op_mod (fun i j h => of_decide_eq_true h) fun _ _ _ => .int _
theorem oPow : OpV X (binaryOp .Pow) gPow := opIV op_pow (fun i j h => by
  unfold powB at h
  rw [Bool.and_eq_true, Bool.and_eq_true] at h
  exact ⟨of_decide_eq_true h.1, of_decide_eq_true h.2.1, of_decide_eq_true h.2.2⟩) fun _ _ _ => .int _
theorem oLt : OpV X (compareOp .Lt) gLt := opI0V op_lt fun _ _ _ => .bl _
theorem oLe : OpV X (compareOp .LtE) gLe := opI0V op_le fun _ _ _ => .bl _
theorem oGt : OpV X (compareOp .Gt) gGt := opI0V op_gt fun _ _ _ => .bl _
theorem oGe : OpV X (compareOp .GtE) gGe := opI0V op_ge fun _ _ _ => .bl _
def gNeg : Dt → Option Dt
  | .int a => some (.int (-a))
  | _ => none
theorem uNeg : UnV X (unaryOp .USub) gNeg := by
  refine ⟨_, un_neg, fun B H v x d Q bh hx hd k => ?_⟩
  unfold gNeg at hd
  split at hd
  · cases hx.int
    cases hd
    exact ⟨_, rfl, k _ B H (Gr.refl bh) (.int _)⟩
  · cases hd
/-! ### texts -/
def gAddS : Dt → Dt → Option Dt
  | .str a, .str b => if a.length + b.length ≤ 1000000 then some (.str (a ++ b)) else none
  | _, _ => none
theorem oAddS : OpV X (binaryOp .Add) gAddS := by
  refine ⟨_, op_add_str, fun B H v u x y d Q bh hx hy hd k => ?_⟩
  unfold gAddS at hd
  split at hd
  · cases hx.str
    cases hy.str
    split at hd
    · rename_i hl
      cases hd
      exact ⟨_, _, rfl, rfl, line_of hl, k _ B H (Gr.refl bh) (.str _)⟩
    · cases hd
  · cases hd
/-! ### rows -/
def gCatT : Dt → Dt → Option Dt
  | .tuple a, .tuple b => if a.length + b.length ≤ 1000000 then some (.tuple (a ++ b)) else none
  | _, _ => none
theorem oCatT : OpV X (binaryOp .Add) gCatT := by
  refine ⟨_, op_catA, fun B H v u x y d Q bh hx hy hd k => ?_⟩
  unfold gCatT at hd
  split at hd
  · rename_i as bs
    obtain ⟨p, xs, rfl, h1, z1⟩ := hx.tuple bh
    obtain ⟨q, ys, rfl, h2, z2⟩ := hy.tuple bh
    split at hd
    · rename_i hl
      cases hd
      have same : ∀ {a : Addr} {zs : List V} {ds : List Dt}, Rdb X.K B H (.ref a) (.tuple ds) → Fz X.K B (.ref a) (.tuple ds) := fun {a zs ds} h => by
        rcases h with h | ⟨L, _, h⟩
        · exact h
        · cases h
      refine ⟨p, q, xs, ys, rfl, rfl, h1, h2, line_of (by rw [z1.len, z2.len]; exact hl), fun e => ?_, fun e1 e2 => ?_, fun e1 e2 r hr => ?_⟩
      · subst e
        cases z1
        exact k _ B H (Gr.refl bh) (same (zs := ys) hy)
      · subst e2
        cases z2
        rw [List.append_nil] at *
        exact k _ B H (Gr.refl bh) (same (zs := xs) hx)
      · exact k _ _ _ (Gr.new bh hr) (.tup (SqT.of upd_same) ((z1.app z2).ex (Gr.new (o := .tup (xs ++ ys)) bh hr).k1))
    · cases hd
  · cases hd
def gCatL : Dt → Dt → Option Dt
  | .list a, .list b => if a.length + b.length ≤ 1000000 then some (.list (a ++ b)) else none
  | _, _ => none
theorem oCatL : OpV X (binaryOp .Add) gCatL := by
  refine ⟨_, op_cat, fun B H v u x y d Q bh hx hy hd k => ?_⟩
  unfold gCatL at hd
  split at hd
  · rename_i as bs
    obtain ⟨p, xs, rfl, h1, z1⟩ := hx.list bh
    obtain ⟨q, ys, rfl, h2, z2⟩ := hy.list bh
    split at hd
    · rename_i hl
      cases hd
      exact ⟨p, q, xs, ys, rfl, rfl, h1, h2, line_of (by rw [z1.len, z2.len]; exact hl), fun r hr => k _ _ _ (Gr.new bh hr) (.lst upd_same ((z1.app z2).ex (Gr.new (o := .lst (xs ++ ys)) bh hr).k1))⟩
    · cases hd
  · cases hd
def gRepL : Dt → Dt → Option Dt
  | .list a, .int n => if 0 ≤ n ∧ n ≤ 1000000 ∧ a.length * n.toNat ≤ 1000000 then some (.list (List.replicate n.toNat a).flatten) else none
  | _, _ => none
theorem oRepL : OpV X (binaryOp .Mult) gRepL := by
  refine ⟨_, op_rep, fun B H v u x y d Q bh hx hy hd k => ?_⟩
  unfold gRepL at hd
  split at hd
  · rename_i as n
    obtain ⟨p, xs, rfl, h1, z1⟩ := hx.list bh
    cases hy.int
    split at hd
    · rename_i hl
      obtain ⟨l1, l2, l3⟩ := hl
      cases hd
      exact ⟨p, n, xs, rfl, rfl, h1, by omega, by omega, line_of (by rw [z1.len]; exact l3), fun r hr => k _ _ _ (Gr.new bh hr) (.lst upd_same ((z1.rep _).ex (Gr.new (o := .lst _) bh hr).k1))⟩
    · cases hd
  · cases hd
def gRepT : Dt → Dt → Option Dt
  | .tuple a, .int n => if 0 ≤ n ∧ n ≤ 1000 ∧ a.length ≤ 1000 then some (.tuple (List.replicate n.toNat a).flatten) else none
  | _, _ => none
/-! ### items -/
theorem fza_atI {K : PySem.W.Frag} {B : Hp} {vs : List V} {ds : List Dt} {i : Int} {d : Dt} (h : FzA K B vs ds) (e : atI ds i = some d) : ∃ v, atI vs i = some v ∧ Fz K B v d := by
  unfold atI at e ⊢
  rw [h.len]
  cases q : ixN ds.length i with
  | none => rw [q] at e; cases e
  | some j =>
    rw [q] at e
    exact h.getD (by simpa using e)
def gIx : Dt → Dt → Option Dt
  | .list ds, .int i => atI ds i
  | .tuple ds, .int i => atI ds i
  | .str z, .int i => if z.length ≤ 1000000 then (atI z.cps.toList i).map fun c => .str ⟨#[c]⟩ else none
  | _, _ => none
theorem iSeq : IxV X gIx := by
  refine ⟨_, ix_seq, fun B H v u x y d Q bh hx hy hd k => ?_⟩
  unfold gIx at hd
  split at hd
  · rename_i ds i
    obtain ⟨p, xs, rfl, h1, z1⟩ := hx.list bh
    cases hy.int
    obtain ⟨w, e, z⟩ := fza_atI z1 hd
    exact .inl ⟨p, xs, i, w, rfl, rfl, SqL.of h1, e, k _ B H (Gr.refl bh) z⟩
  · rename_i ds i
    obtain ⟨p, xs, rfl, h1, z1⟩ := hx.tuple bh
    cases hy.int
    obtain ⟨w, e, z⟩ := fza_atI z1 hd
    exact .inr (.inl ⟨p, xs, i, w, rfl, rfl, h1, e, k _ B H (Gr.refl bh) z⟩)
  · rename_i z i
    cases hx.str
    cases hy.int
    split at hd
    · rename_i hl
      cases e : atI z.cps.toList i with
      | none => rw [e] at hd; cases hd
      | some c =>
        rw [e] at hd
        cases hd
        exact .inr (.inr ⟨z, i, c, rfl, rfl, line_of hl, e, k _ B H (Gr.refl bh) (.str _)⟩)
    · cases hd
  · cases hd
/-! ### equality, in -/
def plain (d : Dt) : Bool := SeqAt.shaped d.py
theorem plain_dict {d : Dt} (h : plain d = true) : d.py.hasDict = false := PyData.hasDict_of_canLay d.py (SeqAt.canLay_of_shaped h)
theorem Rdb.dp {K : PySem.W.Frag} {B H : Hp} {v : V} {d : Dt} (h : Rdb K B H v d) (e : Ex B H) (p : plain d = true) : Dp K H v d.py := (h.fz e).dp (plain_dict p)
/-- deep equality -/
def eqD (a b : Dt) : Bool := PyData.eqv a.py b.py
def gEq : Dt → Dt → Option Dt := fun a b => if plain a = true ∧ plain b = true then some (.bool (eqD a b)) else none
def gNe : Dt → Dt → Option Dt := fun a b => if plain a = true ∧ plain b = true then some (.bool (!eqD a b)) else none
theorem oEq (hu : X.A.units + 64 < cLine) : OpV X (compareOp .Eq) gEq := by
  refine ⟨_, op_eqD hu, fun B H v u x y d Q bh hx hy hd k => ?_⟩
  unfold gEq at hd
  split at hd
  · rename_i h
    cases hd
    exact ⟨_, _, hx.dp bh h.1, hy.dp bh h.2, h.1, h.2, k _ B H (Gr.refl bh) (.bl _)⟩
  · cases hd
theorem oNe (hu : X.A.units + 64 < cLine) : OpV X (compareOp .NotEq) gNe := by
  refine ⟨_, op_neD hu, fun B H v u x y d Q bh hx hy hd k => ?_⟩
  unfold gNe at hd
  split at hd
  · rename_i h
    cases hd
    exact ⟨_, _, hx.dp bh h.1, hy.dp bh h.2, h.1, h.2, k _ B H (Gr.refl bh) (.bl _)⟩
  · cases hd
theorem room_shaped {A : Around} {xs : List PyData} {d : PyData} (sd : SeqAt.shaped d = true) (hu : A.units + 65 < cLine) : A.units + 1 + min (PyData.depthAll xs) d.depth < cLine := by
  have h : (d.canLay0 && decide (d.depth ≤ 64)) = true := sd
  rw [Bool.and_eq_true] at h
  have := of_decide_eq_true h.2
  omega
def rInDT (K : PySem.W.Frag) (neg : Bool) : R2 := fun x y H Q => ∃ d ds, Dp K H x d ∧ (Dp K H y (.list ds) ∨ Dp K H y (.tuple ds)) ∧ SeqAt.shaped d = true ∧ SeqAt.shaped (.list ds) = true ∧ Q (.bl (if neg then !(ds.any fun z => PyData.eqv z d) else ds.any fun z => PyData.eqv z d)) H
theorem op_inDT (hu : X.A.units + 65 < cLine) : OpR X (compareOp .In) (rInDT X.K false) := by
  intro pins s σ H x y v u Q I rx ry h
  obtain ⟨d, ds, hd, he, sd, se, q⟩ := h
  obtain ⟨as, r1⟩ := Dp.reads I d x v hd rx
  rcases he with he | he
  · obtain ⟨bs, r2⟩ := Dp.reads I (.list ds) y u he ry
    exact SeqAt.in_list_reads r2 r1 (SeqAt.canLay_of_shaped se) (SeqAt.canLay_of_shaped sd) (room_shaped sd hu) ⟨.bl _, H, I, rfl, q⟩
  · obtain ⟨bs, r2⟩ := Dp.reads I (.tuple ds) y u he ry
    exact SeqAt.in_tuple_reads r2 r1 (SeqAt.canLay_of_shaped (d := .list ds) se) (SeqAt.canLay_of_shaped sd) (room_shaped sd hu) ⟨.bl _, H, I, rfl, q⟩
theorem op_notInDT (hu : X.A.units + 65 < cLine) : OpR X (compareOp .NotIn) (rInDT X.K true) := by
  intro pins s σ H x y v u Q I rx ry h
  obtain ⟨d, ds, hd, he, sd, se, q⟩ := h
  obtain ⟨as, r1⟩ := Dp.reads I d x v hd rx
  rcases he with he | he
  · obtain ⟨bs, r2⟩ := Dp.reads I (.list ds) y u he ry
    exact SeqAt.notIn_list_reads r2 r1 (SeqAt.canLay_of_shaped se) (SeqAt.canLay_of_shaped sd) (room_shaped sd hu) ⟨.bl _, H, I, rfl, q⟩
  · obtain ⟨bs, r2⟩ := Dp.reads I (.tuple ds) y u he ry
    exact SeqAt.notIn_tuple_reads r2 r1 (SeqAt.canLay_of_shaped (d := .list ds) se) (SeqAt.canLay_of_shaped sd) (room_shaped sd hu) ⟨.bl _, H, I, rfl, q⟩
def memD (d : Dt) (ds : List Dt) : Bool := ds.any fun z => eqD z d
theorem memD_py (d : Dt) (ds : List Dt) : ((Dt.pyL ds).any fun z => PyData.eqv z d.py) = memD d ds := by
  rw [Dt.pyL_map, List.any_map]
  rfl
def gInN (neg : Bool) : Dt → Dt → Option Dt
  | d, .list ds => if plain d = true ∧ plain (.list ds) = true then some (.bool (if neg then !memD d ds else memD d ds)) else none
  | d, .tuple ds => if plain d = true ∧ plain (.list ds) = true then some (.bool (if neg then !memD d ds else memD d ds)) else none
  | _, _ => none
theorem plain_lt {ds : List Dt} (h : plain (.list ds) = true) : plain (.tuple ds) = true := by
  have h : ((PyData.list (Dt.pyL ds)).canLay0 && decide ((PyData.list (Dt.pyL ds)).depth ≤ 64)) = true := h
  show ((PyData.tuple (Dt.pyL ds)).canLay0 && decide ((PyData.tuple (Dt.pyL ds)).depth ≤ 64)) = true
  simpa [PyData.canLay0, PyData.depth] using h
theorem inV_of {f : Value → Value → Sem Value} {neg : Bool} (h : OpR X f (rInDT X.K neg)) : OpV X f (gInN neg) := by
  refine ⟨_, h, fun B H v u x y d Q bh hx hy hd k => ?_⟩
  unfold gInN at hd
  split at hd
  · split at hd
    · rename_i q
      cases hd
      refine ⟨_, _, hx.dp bh q.1, .inl (hy.dp bh q.2), q.1, q.2, ?_⟩
      rw [memD_py]
      exact k _ B H (Gr.refl bh) (.bl _)
    · cases hd
  · split at hd
    · rename_i q
      cases hd
      refine ⟨_, _, hx.dp bh q.1, .inr (hy.dp bh (plain_lt q.2)), q.1, q.2, ?_⟩
      rw [memD_py]
      exact k _ B H (Gr.refl bh) (.bl _)
    · cases hd
  · cases hd
abbrev gIn := gInN false
abbrev gNotIn := gInN true
theorem oIn (hu : X.A.units + 65 < cLine) : OpV X (compareOp .In) gIn := inV_of (op_inDT hu)
theorem oNotIn (hu : X.A.units + 65 < cLine) : OpV X (compareOp .NotIn) gNotIn := inV_of (op_notInDT hu)
/-! ### is None -/
def isN : Dt → Bool
  | .none => true
  | _ => false
def gIsN : Dt → Dt → Option Dt
  | d, .none => some (.bool (isN d))
  | _, _ => none
def gNotN : Dt → Dt → Option Dt
  | d, .none => some (.bool (!isN d))
  | _, _ => none
theorem fz_non {K : PySem.W.Frag} {B : Hp} {v : V} {d : Dt} (h : Fz K B v d) : decide (v = .non) = isN d := by
  cases h <;> rfl
theorem rdb_non {K : PySem.W.Frag} {B H : Hp} {v : V} {d : Dt} (h : Rdb K B H v d) : decide (v = .non) = isN d := by
  rcases h with h | ⟨L, rfl, h⟩
  · exact fz_non h
  · cases h <;> rfl
theorem oIsN : OpV X (compareOp .Is) gIsN := by
  refine ⟨_, op_isN, fun B H v u x y d Q bh hx hy hd k => ?_⟩
  unfold gIsN at hd
  split at hd
  · cases hy.non
    cases hd
    refine ⟨rfl, ?_⟩
    rw [rdb_non hx]
    exact k _ B H (Gr.refl bh) (.bl _)
  · cases hd
theorem oNotN : OpV X (compareOp .IsNot) gNotN := by
  refine ⟨_, op_notN, fun B H v u x y d Q bh hx hy hd k => ?_⟩
  unfold gNotN at hd
  split at hd
  · cases hy.non
    cases hd
    refine ⟨rfl, ?_⟩
    rw [rdb_non hx]
    exact k _ B H (Gr.refl bh) (.bl _)
  · cases hd
/-! ### built-ins -/
def lenOf : Dt → Option Dt
  | .list ds => some (.int ds.length)
  | .tuple ds => some (.int ds.length)
  | .str z => if z.length ≤ 1000000 then some (.int z.length) else none
  | .lsF ns => some (.int ns.length)
  | _ => none
theorem cLenV : C1V X (.builtin "len") lenOf := by
  refine ⟨_, call_len, fun B H v x d Q bh hx hd k => ?_⟩
  unfold lenOf at hd
  split at hd
  · obtain ⟨p, xs, rfl, h1, z1⟩ := hx.list bh
    cases hd
    exact ⟨_, _, rfl, .inl ⟨xs, SqL.of h1, by rw [z1.len]⟩, k _ B H (Gr.refl bh) (.int _)⟩
  · obtain ⟨p, xs, rfl, h1, z1⟩ := hx.tuple bh
    cases hd
    exact ⟨_, _, rfl, .inr ⟨xs, h1, by rw [z1.len]⟩, k _ B H (Gr.refl bh) (.int _)⟩
  · cases hx.str
    split at hd
    · rename_i hl
      cases hd
      exact ⟨_, _, rfl, ⟨line_of hl, rfl⟩, k _ B H (Gr.refl bh) (.int _)⟩
    · cases hd
  · obtain ⟨p, rfl, h1⟩ := hx.lsF bh
    cases hd
    exact ⟨_, _, rfl, .inl ⟨_, h1, by rw [List.length_map]⟩, k _ B H (Gr.refl bh) (.int _)⟩
  · cases hd
def intsOf : List Dt → Option (List Int)
  | [] => some []
  | .int i :: r => (intsOf r).map (i :: ·)
  | _ :: _ => none
theorem intsOf_ok : ∀ {ds : List Dt} {ns : List Int}, intsOf ds = some ns → ds = ns.map Dt.int
  | [], ns, h => by cases h; rfl
  | .int i :: r, ns, h => by
    unfold intsOf at h
    cases e : intsOf r with
    | none => rw [e] at h; cases h
    | some ms => rw [e] at h; cases h; rw [intsOf_ok e]; rfl
  | .none :: _, _, h => by cases h
  | .bool _ :: _, _, h => by cases h
  | .str _ :: _, _, h => by cases h
  | .list _ :: _, _, h => by cases h
  | .tuple _ :: _, _, h => by cases h
  | .dic _ :: _, _, h => by cases h
  | .dct _ :: _, _, h => by cases h
  | .ins _ _ :: _, _, h => by cases h
  | .ref _ :: _, _, h => by cases h
  | .err _ :: _, _, h => by cases h
  | .lsF _ :: _, _, h => by cases h
theorem intsOf_map (ns : List Int) : intsOf (ns.map Dt.int) = some ns := by
  induction ns with
  | nil => rfl
  | cons i r ih => show (intsOf (r.map Dt.int)).map (i :: ·) = _; rw [ih]; rfl
def boolsOf : List Dt → Option (List Bool)
  | [] => some []
  | .bool i :: r => (boolsOf r).map (i :: ·)
  | _ :: _ => none
theorem boolsOf_ok : ∀ {ds : List Dt} {ns : List Bool}, boolsOf ds = some ns → ds = ns.map Dt.bool
  | [], ns, h => by cases h; rfl
  | .bool i :: r, ns, h => by
    unfold boolsOf at h
    cases e : boolsOf r with
    | none => rw [e] at h; cases h
    | some ms => rw [e] at h; cases h; rw [boolsOf_ok e]; rfl
  | .none :: _, _, h => by cases h
  | .int _ :: _, _, h => by cases h
  | .str _ :: _, _, h => by cases h
  | .list _ :: _, _, h => by cases h
  | .tuple _ :: _, _, h => by cases h
  | .dic _ :: _, _, h => by cases h
  | .dct _ :: _, _, h => by cases h
  | .ins _ _ :: _, _, h => by cases h
  | .ref _ :: _, _, h => by cases h
  | .err _ :: _, _, h => by cases h
  | .lsF _ :: _, _, h => by cases h
theorem boolsOf_map (ns : List Bool) : boolsOf (ns.map Dt.bool) = some ns := by
  induction ns with
  | nil => rfl
  | cons i r ih => show (boolsOf (r.map Dt.bool)).map (i :: ·) = _; rw [ih]; rfl
def itemsOf : Dt → Option (List Dt)
  | .list ds => some ds
  | .tuple ds => some ds
  | _ => none
theorem Rdb.items {K : PySem.W.Frag} {B H : Hp} {v : V} {d : Dt} {ds : List Dt} (h : Rdb K B H v d) (e : Ex B H) (q : itemsOf d = some ds) : ∃ a xs, v = .ref a ∧ (SqL K H a xs ∨ SqT K H a xs) ∧ FzA K B xs ds := by
  unfold itemsOf at q
  split at q
  · cases q
    obtain ⟨a, xs, h1, h2, h3⟩ := h.list e
    exact ⟨a, xs, h1, .inl (SqL.of h2), h3⟩
  · cases q
    obtain ⟨a, xs, h1, h2, h3⟩ := h.tuple e
    exact ⟨a, xs, h1, .inr h2, h3⟩
  · cases q
def nsOf (d : Dt) : Option (List Int) := (itemsOf d).bind intsOf
theorem Rdb.ns {K : PySem.W.Frag} {B H : Hp} {v : V} {d : Dt} {ns : List Int} (h : Rdb K B H v d) (e : Ex B H) (q : nsOf d = some ns) : ∃ a, v = .ref a ∧ (SqL K H a (ns.map V.int) ∨ SqT K H a (ns.map V.int)) := by
  unfold nsOf at q
  cases e2 : itemsOf d with
  | none => rw [e2] at q; cases q
  | some ds =>
    rw [e2] at q
    obtain ⟨a, xs, h1, h2, h3⟩ := h.items e e2
    have q : intsOf ds = some ns := q
    rw [intsOf_ok q] at h3
    have := h3.of_ints
    subst this
    exact ⟨a, h1, h2⟩
def gMinL (d : Dt) : Option Dt := match nsOf d with | some ns => if ns ≠ [] then some (.int (lmin ns)) else none | none => none
def gMaxL (d : Dt) : Option Dt := match nsOf d with | some ns => if ns ≠ [] then some (.int (lmax ns)) else none | none => none
theorem cMinV (hc : X.calm = true) : C1V X (.builtin "min") gMinL := by
  refine ⟨_, cr_minA hc, fun B H v x d Q bh hx hd k => ?_⟩
  unfold gMinL at hd
  split at hd
  · rename_i ns hn
    obtain ⟨a, rfl, h⟩ := hx.ns bh hn
    split at hd
    · rename_i ne
      cases hd
      exact ⟨a, ns, rfl, h, ne, k _ B H (Gr.refl bh) (.int _)⟩
    · cases hd
  · cases hd
theorem cMaxV (hc : X.calm = true) : C1V X (.builtin "max") gMaxL := by
  refine ⟨_, cr_maxA hc, fun B H v x d Q bh hx hd k => ?_⟩
  unfold gMaxL at hd
  split at hd
  · rename_i ns hn
    obtain ⟨a, rfl, h⟩ := hx.ns bh hn
    split at hd
    · rename_i ne
      cases hd
      exact ⟨a, ns, rfl, h, ne, k _ B H (Gr.refl bh) (.int _)⟩
    · cases hd
  · cases hd
def gSum : Dt → Option Dt
  | .list ds => (intsOf ds).map fun ns => .int ns.sum
  | _ => none
theorem cSumV (hc : X.calm = true) : C1V X (.builtin "sum") gSum := by
  refine ⟨_, cr_sum hc, fun B H v x d Q bh hx hd k => ?_⟩
  unfold gSum at hd
  split at hd
  · rename_i ds
    obtain ⟨a, xs, rfl, h1, z1⟩ := hx.list bh
    cases e : intsOf ds with
    | none => rw [e] at hd; cases hd
    | some ns =>
      rw [e] at hd
      cases hd
      rw [intsOf_ok e] at z1
      have := z1.of_ints
      subst this
      exact ⟨a, ns, rfl, SqL.of h1, k _ B H (Gr.refl bh) (.int _)⟩
  · cases hd
def gAll : Dt → Option Dt
  | .list ds => (boolsOf ds).map fun ns => .bool (ns.all id)
  | _ => none
def gAny : Dt → Option Dt
  | .list ds => (boolsOf ds).map fun ns => .bool (ns.any id)
  | _ => none
theorem cAllV (hc : X.calm = true) : C1V X (.builtin "all") gAll := by
  refine ⟨_, cr_all hc, fun B H v x d Q bh hx hd k => ?_⟩
  unfold gAll at hd
  split at hd
  · rename_i ds
    obtain ⟨a, xs, rfl, h1, z1⟩ := hx.list bh
    cases e : boolsOf ds with
    | none => rw [e] at hd; cases hd
    | some ns =>
      rw [e] at hd
      cases hd
      rw [boolsOf_ok e] at z1
      have := z1.of_bools
      subst this
      exact ⟨a, ns, rfl, SqL.of h1, k _ B H (Gr.refl bh) (.bl _)⟩
  · cases hd
theorem cAnyV (hc : X.calm = true) : C1V X (.builtin "any") gAny := by
  refine ⟨_, cr_any hc, fun B H v x d Q bh hx hd k => ?_⟩
  unfold gAny at hd
  split at hd
  · rename_i ds
    obtain ⟨a, xs, rfl, h1, z1⟩ := hx.list bh
    cases e : boolsOf ds with
    | none => rw [e] at hd; cases hd
    | some ns =>
      rw [e] at hd
      cases hd
      rw [boolsOf_ok e] at z1
      have := z1.of_bools
      subst this
      exact ⟨a, ns, rfl, SqL.of h1, k _ B H (Gr.refl bh) (.bl _)⟩
  · cases hd
def gTupOf (d : Dt) : Option Dt := (itemsOf d).map .tuple
theorem cTupV : C1V X (.type "tuple") gTupOf := by
  refine ⟨_, call_tuple_of, fun B H v x d Q bh hx hd k => ?_⟩
  unfold gTupOf at hd
  cases x with
  | list ds =>
    cases hd
    obtain ⟨a, xs, rfl, h1, z1⟩ := hx.list bh
    exact ⟨a, xs, rfl, .inl ⟨SqL.of h1, fun l hl => k _ _ _ (Gr.new bh hl) (.tup (SqT.of upd_same) (z1.ex (Gr.new (o := .tup xs) bh hl).k1))⟩⟩
  | tuple ds =>
    cases hd
    rcases hx with hx | ⟨L, _, hx⟩
    · cases hx with
      | tup h1 z1 => exact ⟨_, _, rfl, .inr ⟨(ex_sb bh).t _ _ h1, k _ B H (Gr.refl bh) (.tup h1 z1)⟩⟩
    · cases hx
  | _ => cases hd
def gAbs : List Dt → Option Dt
  | [.int i] => some (.int (if i < 0 then -i else i))
  | _ => none
theorem cAbsV : CaV X (.builtin "abs") gAbs := by
  refine ⟨_, call_abs, fun B H vs xs d Q bh hx hd k => ?_⟩
  unfold gAbs at hd
  split at hd
  · cases hx with
    | cons h t =>
      cases t
      cases h
      cases hd
      exact ⟨_, rfl, k _ B H (Gr.refl bh) (.int _)⟩
  · cases hd
def gMax2 : List Dt → Option Dt
  | [.int i, .int j] => some (.int (if j > i then j else i))
  | _ => none
def gMin2 : List Dt → Option Dt
  | [.int i, .int j] => some (.int (if j < i then j else i))
  | _ => none
theorem cMax2V (hc : X.calm = true) : CaV X (.builtin "max") gMax2 := by
  refine ⟨_, call_max2 hc, fun B H vs xs d Q bh hx hd k => ?_⟩
  unfold gMax2 at hd
  split at hd
  · cases hx with
    | cons h t =>
      cases t with
      | cons h' t =>
        cases t
        cases h
        cases h'
        cases hd
        exact ⟨_, _, rfl, k _ B H (Gr.refl bh) (.int _)⟩
  · cases hd
theorem cMin2V (hc : X.calm = true) : CaV X (.builtin "min") gMin2 := by
  refine ⟨_, call_min2 hc, fun B H vs xs d Q bh hx hd k => ?_⟩
  unfold gMin2 at hd
  split at hd
  · cases hx with
    | cons h t =>
      cases t with
      | cons h' t =>
        cases t
        cases h
        cases h'
        cases hd
        exact ⟨_, _, rfl, k _ B H (Gr.refl bh) (.int _)⟩
  · cases hd
def gInt : List Dt → Option Dt
  | [.int i] => some (.int i)
  | [.bool b] => some (.int (if b then 1 else 0))
  | _ => none
theorem cIntV : CaV X (.type "int") gInt := by
  refine ⟨_, call_int1, fun B H vs xs d Q bh hx hd k => ?_⟩
  unfold gInt at hd
  split at hd
  · cases hx with
    | cons h t =>
      cases t
      cases h
      cases hd
      exact .inl ⟨_, rfl, k _ B H (Gr.refl bh) (.int _)⟩
  · cases hx with
    | cons h t =>
      cases t
      cases h
      cases hd
      exact .inr ⟨_, rfl, k _ B H (Gr.refl bh) (.int _)⟩
  · cases hd
def gStr : List Dt → Option Dt
  | [.int i] => if i.natAbs < 2 ^ 1000 then some (.str (toString i)) else none
  | _ => none
def reprOk (d : PyData) : Bool := d.showable && (decide (d.shown.length ≤ 1000000) && (decide (d.depth ≤ 50) && !d.hasDict))
def gRepr (d : Dt) : Option Dt := if reprOk d.py = true then some (.str d.py.shown) else none
theorem cReprV (hg : X.A.guards = some []) (hu : X.A.units + 64 < cLine) : C1V X (.builtin "repr") gRepr := by
  refine ⟨_, call_reprD hg hu, fun B H v x d Q bh hx hd k => ?_⟩
  unfold gRepr at hd
  split at hd
  · rename_i h
    cases hd
    unfold reprOk at h
    rw [Bool.and_eq_true, Bool.and_eq_true, Bool.and_eq_true] at h
    obtain ⟨h1, h2, h3, h4⟩ := h
    have h4 : x.py.hasDict = false := by simpa using h4
    exact ⟨v, x.py, rfl, (hx.fz bh).dp h4, h1, line_of (of_decide_eq_true h2), of_decide_eq_true h3, k _ B H (Gr.refl bh) (.str _)⟩
  · cases hd
/-! ### == of ints, of texts -/
def gEqI := gI fun a b => some (.bool (decide (a = b)))
def gNeI := gI fun a b => some (.bool (!decide (a = b)))
def gEqS : Dt → Dt → Option Dt
  | .str a, .str b => some (.bool (decide (a = b)))
  | _, _ => none
def gNeS : Dt → Dt → Option Dt
  | .str a, .str b => some (.bool (!decide (a = b)))
  | _, _ => none
theorem dec_int (a b : Int) : decide (V.int a = V.int b) = decide (a = b) := by
  by_cases h : a = b
  · rw [h]; simp
  · rw [decide_eq_false h, decide_eq_false (fun z => h (V.int.inj z))]
theorem dec_str (a b : Str) : decide (V.str a = V.str b) = decide (a = b) := by
  by_cases h : a = b
  · rw [h]; simp
  · rw [decide_eq_false h, decide_eq_false (fun z => h (V.str.inj z))]
theorem oEqI : OpV X (compareOp .Eq) gEqI := by
  refine ⟨_, op_eq, fun B H v u x y d Q bh hx hy hd k => ?_⟩
  unfold gEqI gI at hd
  split at hd
  · cases hx.int
    cases hy.int
    cases hd
    refine ⟨rfl, ?_⟩
    rw [dec_int]
    exact k _ B H (Gr.refl bh) (.bl _)
  · cases hd
theorem oNeI : OpV X (compareOp .NotEq) gNeI := by
  refine ⟨_, op_ne, fun B H v u x y d Q bh hx hy hd k => ?_⟩
  unfold gNeI gI at hd
  split at hd
  · cases hx.int
    cases hy.int
    cases hd
    refine ⟨rfl, ?_⟩
    rw [dec_int]
    exact k _ B H (Gr.refl bh) (.bl _)
  · cases hd
theorem oEqS : OpV X (compareOp .Eq) gEqS := by
  refine ⟨_, op_eq, fun B H v u x y d Q bh hx hy hd k => ?_⟩
  unfold gEqS at hd
  split at hd
  · cases hx.str
    cases hy.str
    cases hd
    refine ⟨rfl, ?_⟩
    rw [dec_str]
    exact k _ B H (Gr.refl bh) (.bl _)
  · cases hd
theorem oNeS : OpV X (compareOp .NotEq) gNeS := by
  refine ⟨_, op_ne, fun B H v u x y d Q bh hx hy hd k => ?_⟩
  unfold gNeS at hd
  split at hd
  · cases hx.str
    cases hy.str
    cases hd
    refine ⟨rfl, ?_⟩
    rw [dec_str]
    exact k _ B H (Gr.refl bh) (.bl _)
  · cases hd
end
end Dv
/-! DvLc: what is walked, list comprehensions, by value. -/
namespace Dv
open PySem PySem.Spec PyProof.Rows L2 Ts
section
variable {K : PySem.W.Frag} {c : Vc} {F : Frm} {B B' H H' : Hp} {s s' : Sl} {σ σ' : L2.St} {T : List Addr} {vs : List Nat}
theorem SR.wipe (r : SR K c F B s σ H T) (hv : ∀ i ∈ vs, i ∉ c.io) : SR K c F B (wipeS s vs) (L2.wipe σ vs) H T :=
  r.sig (wipeL_len vs s.l) (wipe_length σ vs) (fun j d h => ⟨(wipeL_get h).2, wipe_out (wipeL_get h).1⟩) (fun i m => wipe_out fun z => hv i z m) fun _ _ h => h
theorem SR.unwipe (r : SR K c F B s σ H T) (e : L2.wipe σ vs = L2.wipe σ' vs) (hv : ∀ i ∈ vs, i ∉ c.io) : SR K c F B (wipeS s vs) σ' H T := by
  have at_ : ∀ j, j ∉ vs → σ'[j]? = σ[j]? := fun j h => by
    rw [← wipe_out (σ := σ') h, ← wipe_out (σ := σ) h, e]
  refine r.sig (wipeL_len vs s.l) ?_ (fun j d h => ⟨(wipeL_get h).2, at_ j (wipeL_get h).1⟩) (fun i m => at_ i fun z => hv i z m) fun _ _ h => h
  have := congrArg List.length e
  rw [wipe_length, wipe_length] at this
  exact this.symm
end
/-! ### what is walked -/
section
variable {X : Cx} {c : Vc} {e it tg : Expr} {f fe : Wt Dt} {fl : Wt (List Dt)} {pos p : Pos}
def wItT (f : Wt Dt) : Wt (List Dt) := fun s P E => f s (fun d s1 => ∃ ds, d = .tuple ds ∧ P ds s1) E
def wItL (f : Wt Dt) : Wt (List Dt) := fun s P E => f s (fun d s1 => ∃ ds, d = .list ds ∧ P ds s1) E
theorem vi_tup (h : VX X c e f) (hp : ∀ {te : TE}, PE X e te → PI X tg e (iTup X.K te)) : VI X c tg e (wItT f) := by
  obtain ⟨te, h1, h2⟩ := h
  refine ⟨_, hp h1, ?_⟩
  intro F B s σ H R P E r hf k kx
  refine h2 F B s σ H _ _ E r hf (fun d s1 v B1 H1 p1 r1 e1 z1 => ?_) kx
  obtain ⟨ds, rfl, q⟩ := p1
  cases z1 with
  | tup hs ha =>
    rename_i a xs
    refine ⟨a, rfl, ⟨xs, (ex_sb r1.bh).t _ _ hs⟩, ?_⟩
    refine k ds s1 B1 H1 (Itt X.K a) (fun H => SqT X.K H a xs) (YAt xs) q r1 e1 (by rw [← ha.len]; exact walk_tup) (fun B2 H2 b1 b2 => (ex_sb (Evl.Ex.trans b1 b2)).t _ _ hs) fun i B2 H2 x H3 b1 b2 y => ?_
    obtain ⟨rfl, hx⟩ := y
    obtain ⟨d, hd, hz⟩ := ha.get hx
    exact ⟨d, B2, hd, Gr.refl b2, hz.ex b1⟩
theorem vi_lst (h : VX X c e f) (hp : ∀ {te : TE}, PE X e te → PI X tg e (iList X.K te)) : VI X c tg e (wItL f) := by
  obtain ⟨te, h1, h2⟩ := h
  refine ⟨_, hp h1, ?_⟩
  intro F B s σ H R P E r hf k kx
  refine h2 F B s σ H _ _ E r hf (fun d s1 v B1 H1 p1 r1 e1 z1 => ?_) kx
  obtain ⟨ds, rfl, q⟩ := p1
  cases z1 with
  | lst hs ha =>
    rename_i a xs
    refine ⟨a, rfl, ⟨xs, SqL.of (r1.bh _ _ hs)⟩, ?_⟩
    refine k ds s1 B1 H1 (Itl X.K a) (fun H => SqL X.K H a xs) (YAt xs) q r1 e1 (by rw [← ha.len]; exact walk_list) (fun B2 H2 b1 b2 => SqL.of (b2 _ _ (b1 _ _ hs))) fun i B2 H2 x H3 b1 b2 y => ?_
    obtain ⟨rfl, hx⟩ := y
    obtain ⟨d, hd, hz⟩ := ha.get hx
    exact ⟨d, B2, hd, Gr.refl b2, hz.ex b1⟩
def wItF (f : Wt Dt) : Wt (List Dt) := fun s P E => f s (fun d s1 => ∃ ns, d = .lsF ns ∧ P (ns.map .int) s1) E
theorem vi_lsF (h : VX X c e f) (hp : ∀ {te : TE}, PE X e te → PI X tg e (iList X.K te)) : VI X c tg e (wItF f) := by
  obtain ⟨te, h1, h2⟩ := h
  refine ⟨_, hp h1, ?_⟩
  intro F B s σ H R P E r hf k kx
  refine h2 F B s σ H _ _ E r hf (fun d s1 v B1 H1 p1 r1 e1 z1 => ?_) kx
  obtain ⟨ns, rfl, q⟩ := p1
  cases z1 with
  | lsF hs =>
    rename_i a
    have up : ∀ {H : Hp}, Ex B1 H → SqL X.K H a (ns.map V.int) := fun {H} b => (ex_sb b).l _ _ hs
    refine ⟨a, rfl, ⟨_, up r1.bh⟩, ?_⟩
    refine k _ s1 B1 H1 (Itl X.K a) (fun H => SqL X.K H a (ns.map V.int)) (YAt (ns.map V.int)) q r1 e1 (by rw [List.length_map, ← List.length_map (f := V.int)]; exact walk_list) (fun B2 H2 b1 b2 => up (Evl.Ex.trans b1 b2)) fun i B2 H2 x H3 b1 b2 y => ?_
    obtain ⟨rfl, hx⟩ := y
    obtain ⟨d, hd, hz⟩ := (FzA.ints (K := X.K) (B := B1) ns).get hx
    exact ⟨d, B2, hd, Gr.refl b2, hz.ex b1⟩
def rgD (lo : Int) (n : Nat) : List Dt := (List.range n).map fun (i : Nat) => .int (lo + (i : Int))
theorem rgD_len (lo : Int) (n : Nat) : (rgD lo n).length = n := by simp [rgD]
theorem rgD_get {lo : Int} {n i : Nat} {d : Dt} (h : (rgD lo n)[i]? = some d) : i < n ∧ d = .int (lo + (i : Int)) := by
  unfold rgD at h
  rw [List.getElem?_map] at h
  by_cases hi : i < n
  · rw [List.getElem?_range hi] at h
    cases h
    exact ⟨hi, rfl⟩
  · rw [List.getElem?_eq_none (by rw [List.length_range]; omega)] at h
    cases h
theorem rgD_at {lo : Int} {n i : Nat} (h : i < n) : (rgD lo n)[i]? = some (.int (lo + (i : Int))) := by
  unfold rgD
  rw [List.getElem?_map, List.getElem?_range h]
  rfl
def wRg1 (fl : Wt (List Dt)) : Wt (List Dt) := fun s P E => fl s (fun ds s1 => ∃ n, ds = [.int n] ∧ -(2 ^ 62) ≤ n ∧ n < 2 ^ 62 ∧ P (rgD 0 n.toNat) s1) E
def wRg2 (fl : Wt (List Dt)) : Wt (List Dt) := fun s P E => fl s (fun ds s1 => ∃ a b, ds = [.int a, .int b] ∧ (-(2 ^ 62) ≤ a ∧ a < 2 ^ 62 ∧ -(2 ^ 62) ≤ b ∧ b < 2 ^ 62) ∧ P (rgD a (b - a).toNat) s1) E
theorem walk_lt {J : It} {n : Nat} {G : Hp → Prop} {Y : Nat → Hp → V → Hp → Prop} (w : Walk J n G Y) : Walk J n G (fun i H x H' => Y i H x H' ∧ i < n) := w.mono (fun _ h => h) fun _ _ _ _ hi _ y => ⟨y, hi⟩
theorem vi_rg1 {a : Expr} (ha : VA X c [a] fl) (hp : ∀ {t : TA}, PA X [a] t → PI X tg it (iRng1 t)) : VI X c tg it (wRg1 fl) := by
  obtain ⟨te, h1, h2⟩ := ha
  refine ⟨_, hp h1, ?_⟩
  intro F B s σ H R P E r hf k kx
  refine h2 F B s σ H _ _ E r hf (fun d s1 v B1 H1 p1 r1 e1 z1 => ?_) kx
  obtain ⟨n, rfl, n1, n2, q⟩ := p1
  cases z1 with
  | cons z t =>
    cases t
    cases z
    refine ⟨n, rfl, n1, n2, ?_⟩
    refine k _ s1 B1 H1 _ (fun _ => True) _ q r1 e1 (by rw [rgD_len]; exact walk_lt walk_range) (fun _ _ _ _ => trivial) fun i B2 H2 x H3 b1 b2 y => ?_
    obtain ⟨⟨rfl, rfl⟩, hi⟩ := y
    exact ⟨_, B2, rgD_at hi, Gr.refl b2, .int _⟩
theorem vi_rg2 {a b : Expr} (ha : VA X c [a, b] fl) (hp : ∀ {t : TA}, PA X [a, b] t → PI X tg it (iRng2 t)) : VI X c tg it (wRg2 fl) := by
  obtain ⟨te, h1, h2⟩ := ha
  refine ⟨_, hp h1, ?_⟩
  intro F B s σ H R P E r hf k kx
  refine h2 F B s σ H _ _ E r hf (fun d s1 v B1 H1 p1 r1 e1 z1 => ?_) kx
  obtain ⟨n, m, rfl, n1, q⟩ := p1
  cases z1 with
  | cons z t =>
    cases t with
    | cons z' t =>
      cases t
      cases z
      cases z'
      refine ⟨n, m, rfl, n1, ?_⟩
      refine k _ s1 B1 H1 _ (fun _ => True) _ q r1 e1 (by rw [rgD_len]; exact walk_lt walk_range) (fun _ _ _ _ => trivial) fun i B2 H2 x H3 b1 b2 y => ?_
      obtain ⟨⟨rfl, rfl⟩, hi⟩ := y
      exact ⟨_, B2, rgD_at hi, Gr.refl b2, .int _⟩
/-- enumerate -/
def enD (ds : List Dt) : List Dt := ds.zipIdx.map fun p => .tuple [.int (p.2 : Nat), p.1]
theorem enD_len (ds : List Dt) : (enD ds).length = ds.length := by simp [enD]
theorem enD_get {ds : List Dt} {i : Nat} : (enD ds)[i]? = ds[i]?.map fun d => .tuple [.int (i : Nat), d] := by
  unfold enD
  rw [List.getElem?_map, List.getElem?_zipIdx]
  cases ds[i]? <;> simp
def wEn (f : Wt Dt) (l : Bool) : Wt (List Dt) := fun s P E => f s (fun d s1 => ∃ ds, d = (if l then .list ds else .tuple ds) ∧ P (enD ds) s1) E
theorem pair_new {K : PySem.W.Frag} {B H : Hp} {T : Addr} {x y : V} {a b : Dt} (bh : Ex B H) (hT : H T = none) (h1 : Fz K B x a) (h2 : Fz K B y b) : Gr B H (upd B T (.tup [x, y])) (upd H T (.tup [x, y])) ∧ Fz K (upd B T (.tup [x, y])) (.ref T) (.tuple [a, b]) := by
  have g := Gr.new (o := .tup [x, y]) bh hT
  exact ⟨g, .tup (SqT.of upd_same) (.cons (h1.ex g.k1) (.cons (h2.ex g.k1) .nil))⟩
theorem vi_enL {a : Expr} (ha : VX X c a f) (hp : ∀ {t : TA}, PA X [a] t → PI X tg it (iEnum X.K t)) (hs : starEach [a] X.env = (false, eval a X.env) :: starEach [] X.env := by rfl) : VI X c tg it (wEn f true) := by
  obtain ⟨te, h1, h2⟩ := ha
  refine ⟨_, hp (pa_cons h1 pa_nil hs), ?_⟩
  intro F B s σ H R P E r hf k kx
  refine h2 F B s σ H _ _ E r hf (fun d s1 v B1 H1 p1 r1 e1 z1 => ?_) kx
  obtain ⟨ds, e0, q⟩ := p1
  have e0 : d = .list ds := e0
  subst e0
  cases z1 with
  | lst hs ha =>
    rename_i a xs
    refine ⟨a, xs, rfl, SqL.of (r1.bh _ _ hs), ?_⟩
    refine k _ s1 B1 H1 _ (fun H => SqL X.K H a xs) _ q r1 e1 (by rw [enD_len, ← ha.len]; exact walk_enum) (fun B2 H2 b1 b2 => SqL.of (b2 _ _ (b1 _ _ hs))) fun i B2 H2 x H3 b1 b2 y => ?_
    obtain ⟨T, x1, y1, rfl, hT, rfl, w1, w2⟩ := y
    cases w1
    obtain ⟨d, hd, hz⟩ := ha.get w2
    obtain ⟨g1, g2⟩ := pair_new b2 hT (.int (i : Nat)) (hz.ex b1)
    exact ⟨_, _, by rw [enD_get, hd]; rfl, g1, g2⟩
theorem vi_enT {a : Expr} (ha : VX X c a f) (hp : ∀ {t : TA}, PA X [a] t → PI X tg it (iEnumT X.K t)) (hs : starEach [a] X.env = (false, eval a X.env) :: starEach [] X.env := by rfl) : VI X c tg it (wEn f false) := by
  obtain ⟨te, h1, h2⟩ := ha
  refine ⟨_, hp (pa_cons h1 pa_nil hs), ?_⟩
  intro F B s σ H R P E r hf k kx
  refine h2 F B s σ H _ _ E r hf (fun d s1 v B1 H1 p1 r1 e1 z1 => ?_) kx
  obtain ⟨ds, e0, q⟩ := p1
  have e0 : d = .tuple ds := e0
  subst e0
  cases z1 with
  | tup hs ha =>
    rename_i a xs
    refine ⟨a, xs, rfl, (ex_sb r1.bh).t _ _ hs, ?_⟩
    refine k _ s1 B1 H1 _ (fun H => SqT X.K H a xs) _ q r1 e1 (by rw [enD_len, ← ha.len]; exact walk_enumT) (fun B2 H2 b1 b2 => (ex_sb (Evl.Ex.trans b1 b2)).t _ _ hs) fun i B2 H2 x H3 b1 b2 y => ?_
    obtain ⟨T, x1, y1, rfl, hT, rfl, w1, w2⟩ := y
    cases w1
    obtain ⟨d, hd, hz⟩ := ha.get w2
    obtain ⟨g1, g2⟩ := pair_new b2 hT (.int (i : Nat)) (hz.ex b1)
    exact ⟨_, _, by rw [enD_get, hd]; rfl, g1, g2⟩
/-- zip of two of one length -/
def zpD (as bs : List Dt) : List Dt := List.zipWith (fun a b => .tuple [a, b]) as bs
theorem zpD_len {as bs : List Dt} (h : as.length = bs.length) : (zpD as bs).length = as.length := by simp [zpD, h]
theorem zpD_get {as bs : List Dt} {i : Nat} {a b : Dt} (h1 : as[i]? = some a) (h2 : bs[i]? = some b) : (zpD as bs)[i]? = some (.tuple [a, b]) := by
  simp [zpD, List.getElem?_zipWith, h1, h2]
def seqD (t : Bool) (ds : List Dt) : Dt := if t then .tuple ds else .list ds
def wZp (t1 t2 : Bool) (fl : Wt (List Dt)) : Wt (List Dt) := fun s P E => fl s (fun ds s1 => ∃ as bs, ds = [seqD t1 as, seqD t2 bs] ∧ as.length = bs.length ∧ P (zpD as bs) s1) E
theorem fz_seq {K : PySem.W.Frag} {B : Hp} {v : V} {t : Bool} {ds : List Dt} (h : Fz K B v (seqD t ds)) : ∃ a xs, v = .ref a ∧ (∀ H, Ex B H → SqK t K H a xs) ∧ FzA K B xs ds := by
  cases t with
  | true =>
    have h : Fz K B v (.tuple ds) := h
    cases h with
    | tup hs ha => exact ⟨_, _, rfl, fun H e => (ex_sb e).t _ _ hs, ha⟩
  | false =>
    have h : Fz K B v (.list ds) := h
    cases h with
    | lst hs ha => exact ⟨_, _, rfl, fun H e => SqL.of (e _ _ hs), ha⟩
theorem vi_zip {a b : Expr} {t1 t2 : Bool} (ha : VA X c [a, b] fl) (hp : ∀ {t : TA}, PA X [a, b] t → PI X tg it (iZipM t1 t2 X.K t)) : VI X c tg it (wZp t1 t2 fl) := by
  obtain ⟨te, h1, h2⟩ := ha
  refine ⟨_, hp h1, ?_⟩
  intro F B s σ H R P E r hf k kx
  refine h2 F B s σ H _ _ E r hf (fun d s1 v B1 H1 p1 r1 e1 z1 => ?_) kx
  obtain ⟨as, bs, rfl, hl, q⟩ := p1
  cases z1 with
  | cons z t =>
    cases t with
    | cons z' t =>
      cases t
      obtain ⟨a, xs, rfl, s1', z1⟩ := fz_seq z
      obtain ⟨b, ys, rfl, s2', z2⟩ := fz_seq z'
      have hl2 : xs.length = ys.length := by rw [z1.len, z2.len, hl]
      refine ⟨a, b, xs, ys, rfl, s1' _ r1.bh, s2' _ r1.bh, ?_⟩
      refine k _ s1 B1 H1 _ (fun H => SqK t1 X.K H a xs ∧ SqK t2 X.K H b ys) _ q r1 e1 (by rw [zpD_len hl, ← z1.len]; exact walk_zipM hl2) (fun B2 H2 b1 b2 => ⟨s1' _ (Evl.Ex.trans b1 b2), s2' _ (Evl.Ex.trans b1 b2)⟩) fun i B2 H2 x H3 b1 b2 y => ?_
      obtain ⟨T, x1, y1, rfl, hT, rfl, w1, w2⟩ := y
      obtain ⟨d1, hd1, hz1⟩ := z1.get w1
      obtain ⟨d2, hd2, hz2⟩ := z2.get w2
      obtain ⟨g1, g2⟩ := pair_new b2 hT (hz1.ex b1) (hz2.ex b1)
      exact ⟨_, _, zpD_get hd1 hd2, g1, g2⟩
end
/-! ### list comprehensions -/
/-- the meaning of a reading -/
def rE (K : PySem.W.Frag) (c : Vc) (f : Wt Dt) : TE := fun σ H Q => ∃ F B s P E, SR K c F B s σ H [] ∧ f s P E ∧ PostE K c F B σ P Q ∧ PostX K c F σ E
def rT (K : PySem.W.Frag) (c : Vc) (f : Wt Bool) : TT := fun σ H Q => ∃ F B s P E, SR K c F B s σ H [] ∧ f s P E ∧ PostT K c F B σ P Q ∧ PostX K c F σ E
def rG (K : PySem.W.Frag) (c : Vc) (f : Dt → Sl → (Sl → Prop) → Prop) : TG := fun v σ H Q => ∃ F B s d P, SR K c F B s σ H [] ∧ Fz K B v d ∧ f d s P ∧ ∀ s' σ' H', P s' → SR K c F B s' σ' H' [] → Q σ' H'
section
variable {X : Cx} {c : Vc} {e elt it tg : Expr} {ifs : List Expr} {f fe : Wt Dt} {ft : Wt Bool} {fi : Wt (List Dt)} {gt : Dt → Sl → (Sl → Prop) → Prop} {pos p : Pos}
theorem VX.can (h : VX X c e f) : PE X e (rE X.K c f) := by
  obtain ⟨te, h1, h2⟩ := h
  refine ⟨fun pins s σ H Q I q => h1.run pins s σ H Q I ?_⟩
  obtain ⟨F, B, s', P, E, r, hf, k, kx⟩ := q
  exact h2 F B s' σ H Q P E r hf k kx
theorem VT.can (h : VT X c e ft) : PT X e (rT X.K c ft) := by
  obtain ⟨te, h1, h2⟩ := h
  refine ⟨fun pins s σ H Q I q => h1.run pins s σ H Q I ?_⟩
  obtain ⟨F, B, s', P, E, r, hf, k, kx⟩ := q
  exact h2 F B s' σ H Q P E r hf k kx
/-- a comprehension's tests -/
def VTs (X : Cx) (c : Vc) (ifs : List Expr) (ft : Wt Bool) : Prop := PTs X ifs (rT X.K c ft)
def wYes : Wt Bool := fun s P _ => P true s
theorem vts_nil : VTs X c [] wYes := by
  refine ⟨fun pins s σ H Q I q => pts_nil.run pins s σ H Q I ?_⟩
  obtain ⟨F, B, s', P, E, r, hf, k, kx⟩ := q
  exact k true s' B H hf r (Evl.Ex.refl _)
theorem vts_one (h : VT X c e ft) : VTs X c [e] ft := pts_one h.can
/-- nothing leaves a comprehension -/
abbrev Vc.in (c : Vc) : Vc := { c with W := fun _ _ _ _ => False }
def EF : Str → Sl → Prop := fun _ _ => False
def wLc (vs : List Nat) (fi : Wt (List Dt)) (gt : Dt → Sl → (Sl → Prop) → Prop) (ft : Wt Bool) (fe : Wt Dt) : Wt Dt := fun s P E => fi s (fun ds s0 => ∃ I : Nat → List Dt → Sl → Prop, I 0 [] (wipeS s0 vs) ∧
  (∀ i acc s d, ds[i]? = some d → I i acc s → gt d s fun s1 => ft s1 (fun b s2 => if b = true then fe s2 (fun y s3 => acc.length < 1000000 ∧ I (i + 1) (acc ++ [y]) (wipeS s3 vs)) EF else I (i + 1) acc (wipeS s2 vs)) EF) ∧
  ∀ acc s, I ds.length acc s → P (.list acc) s) E
/-- the target's store, the slots of the comprehension alone -/
def DGw (K : PySem.W.Frag) (c : Vc) (vs : List Nat) (g : TG) (gt : Dt → Sl → (Sl → Prop) → Prop) : Prop := ∀ F B s σ H v d (Q : L2.St → Hp → Prop) P, SR K c F B s (L2.wipe σ vs) H [] → Fz K B v d → gt d s P →
  (∀ s' σ', P s' → SR K c F B s' σ' H [] → L2.wipe σ' vs = L2.wipe σ vs → Q σ' H) → g v (L2.wipe σ vs) H Q
theorem wipe_set {σ : L2.St} {v : Option V} : ∀ {vs : List Nat} {i : Nat}, i ∈ vs → L2.wipe (σ.set i v) vs = L2.wipe σ vs
  | [], _, h => by cases h
  | j :: r, i, h => by
    show (L2.wipe (σ.set i v) r).set j none = (L2.wipe σ r).set j none
    by_cases e : i ∈ r
    · rw [wipe_set e]
    · have ei : i = j := (List.mem_cons.mp h).elim id fun z => absurd z e
      subst ei
      have : ∀ (l : List Nat), i ∉ l → ∀ τ : L2.St, L2.wipe (τ.set i v) l = (L2.wipe τ l).set i v := by
        intro l
        induction l with
        | nil => intro _ τ; rfl
        | cons k l ih =>
          intro hk τ
          show (L2.wipe (τ.set i v) l).set k none = ((L2.wipe τ l).set k none).set i v
          rw [ih (fun z => hk (List.mem_cons_of_mem _ z)) τ, List.set_comm _ _ (fun z => hk (by rw [z]; exact List.mem_cons_self))]
      rw [this r e σ, List.set_set]
theorem wipe_wipe {σ : L2.St} : ∀ {vs : List Nat}, L2.wipe (L2.wipe σ vs) vs = L2.wipe σ vs := by
  intro vs
  have : ∀ (l : List Nat) (τ : L2.St), (∀ i ∈ l, τ[i]? = some none ∨ τ.length ≤ i) → L2.wipe τ l = τ := by
    intro l
    induction l with
    | nil => intro τ _; rfl
    | cons k l ih =>
      intro τ h
      show (L2.wipe τ l).set k none = τ
      rw [ih τ fun i m => h i (List.mem_cons_of_mem _ m)]
      rcases h k List.mem_cons_self with e | e
      · apply List.ext_getElem?
        intro j
        by_cases z : k = j
        · rw [← z, e, List.getElem?_set_self (List.getElem?_eq_some_iff.mp e).1]
        · rw [List.getElem?_set_ne z]
      · rw [List.set_eq_of_length_le e]
  refine this vs _ fun i m => ?_
  by_cases hl : i < (L2.wipe σ vs).length
  · left
    have e := List.getElem?_eq_getElem hl
    rw [e]
    cases w : (L2.wipe σ vs)[i] with
    | none => rfl
    | some x =>
      rw [w] at e
      exact absurd m (wipe_some e).2
  · exact .inr (by omega)
theorem dgw_name {K : PySem.W.Frag} {vs : List Nat} {i : Nat} (hi : i ∈ vs) (ho : c.o i = false) (hio : c.io.contains i = false) : DGw K c vs (gName i) (gNm i) := by
  intro F B s σ H v d Q P r z hf k
  refine k _ _ hf (r.setF z ho hio) ?_
  rw [wipe_set hi, wipe_wipe]
theorem dgw_nms {K : PySem.W.Frag} {vs : List Nat} : ∀ {is : List Nat}, (∀ i ∈ is, i ∈ vs ∧ c.o i = false ∧ c.io.contains i = false) → ∀ {F B s σ τ H us ds} {Q : L2.St → Hp → Prop} {P}, SR K c F B s τ H [] → L2.wipe τ vs = L2.wipe σ vs → FzA K B us ds → gNms is ds s P →
    (∀ s' σ', P s' → SR K c F B s' σ' H [] → L2.wipe σ' vs = L2.wipe σ vs → Q σ' H) → tgNms is us τ H Q ∧ us.length = is.length
  | [], _, F, B, s, σ, τ, H, us, ds, Q, P, r, w, z, hf, k => by
    obtain ⟨rfl, q⟩ := hf
    cases z
    exact ⟨⟨rfl, k _ _ q r w⟩, rfl⟩
  | i :: is, hi, F, B, s, σ, τ, H, us, ds, Q, P, r, w, z, hf, k => by
    obtain ⟨d, es, rfl, q⟩ := hf
    cases z with
    | cons z zs =>
      obtain ⟨h0, h1, h2⟩ := hi i (by simp)
      obtain ⟨a, b⟩ := dgw_nms (σ := σ) (fun j m => hi j (List.mem_cons_of_mem _ m)) (r.setF z h1 h2) (by rw [wipe_set h0]; exact w) zs q k
      exact ⟨⟨_, _, rfl, a⟩, congrArg Nat.succ b⟩
theorem dgw_tup {K : PySem.W.Frag} {vs : List Nat} {is : List Nat} (hi : ∀ i ∈ is, i ∈ vs ∧ c.o i = false ∧ c.io.contains i = false) : DGw K c vs (gTup K is.length (tgNms is)) (gTpN is) := by
  intro F B s σ H v d Q P r z hf k
  obtain ⟨ds, rfl, q⟩ := hf
  obtain ⟨a, xs, rfl, h1, h2⟩ := (Rdb.of (H := H) z).tuple r.bh
  obtain ⟨w1, w2⟩ := dgw_nms hi r wipe_wipe h2 q k
  exact ⟨a, xs, rfl, h1, w2, w1⟩
theorem d_lc {K : PySem.W.Frag} {wi : TI} {g : TG} {vs : List Nat} (hi : DI K c wi fi) (hg : DGw K c.in vs g gt) (hv : ∀ i ∈ vs, i ∉ c.io) : DN K c (tLc wi g (rT K c.in ft) (rE K c.in fe) vs) (wLc vs fi gt ft fe) := by
  intro F B s σ H Q P E r hf k kx
  refine hi F B s σ H _ _ E r hf (fun ds s1 B1 H1 J G Y p r1 e1 w hG hY => ?_) kx
  obtain ⟨I, i0, turn, done⟩ := p
  intro D hD
  have hF : ¬ PN F.H0 D := r1.f0 hD
  have hB1 : B1 D = none := r1.bn hD
  have hB0 : F.B0 D = none := by
    cases e : F.B0 D with
    | none => rfl
    | some o => rw [r1.eb _ _ e] at hB1; cases hB1
  -- the state between the turns: acc at D
  let Pv : Nat → Hp → Prop := fun i H' => ∃ B' s' acc xs, SR K c (F.pin D (.lst xs)) B' s' σ H' [] ∧ Ex B1 B' ∧ FzA K B' xs acc ∧ I i acc s' ∧ wipeS s' vs = s'
  have noX : ∀ {σ' F'}, PostX K c.in F' σ' EF := fun _ _ _ _ h => h.elim
  refine lc_it w Pv ?_ (fun i H' _ q => ?_) (fun i x H2 H3 hi2 q y => ?_) fun H' q => ?_
  · have r2 : SR K c F B1 s1 σ (upd H1 D (.lst [])) [] := r1.step (Evl.Ex.refl _) (Evl.Ex.trans r1.bh (ex_new hD)) (fun _ _ => rfl) (ex_new hD)
    refine ⟨B1, wipeS s1 vs, [], [], ?_, Evl.Ex.refl _, .nil, i0, wipeS_wipeS⟩
    exact SR.forgetW (r2.pinned hF hB1 upd_same rfl (r1.noOs hD) (r1.noCs hD)) vs
  · obtain ⟨B', s', acc, xs, r', e', _⟩ := q
    exact hG B' H' e' r'.bh
  · obtain ⟨B', s', acc, xs, r', e', za, q, ws⟩ := q
    obtain ⟨d, B3, hd, g3, z⟩ := hY i B' H2 x H3 e' r'.bh y
    have c0 : SR K c.in (F.pin D (.lst xs)) B' s' σ H2 [] := r'.ctx rfl rfl rfl
    have r3 : SR K c.in (F.pin D (.lst xs)) B3 s' (L2.wipe σ vs) H3 [] := by
      have := (c0.gr g3).wipe hv
      rw [ws] at this
      exact this
    have e3 := Evl.Ex.trans e' g3.k1
    refine hg _ B3 s' σ H3 x d _ _ r3 z (turn i acc s' d hd q) fun s4 σ4 q4 r4 w4 => ⟨w4, ?_⟩
    refine ⟨_, B3, s4, _, EF, r4, q4, fun b s5 B5 H5 p5 r5 e5 => ?_, noX⟩
    have e35 := Evl.Ex.trans e3 e5
    cases b with
    | true =>
      refine iteT ⟨_, B5, s5, _, EF, r5, p5, fun y s6 v B6 H6 p6 r6 e6 z6 => ?_, noX⟩
      obtain ⟨hl, q6⟩ := p6
      have u6 : SR K c (F.pin D (.lst xs)) B6 (wipeS s6 vs) σ H6 [] := (r6.unwipe w4 hv).ctx rfl rfl rfl
      have za6 := za.ex (Evl.Ex.trans g3.k1 (Evl.Ex.trans e5 e6))
      refine ⟨xs, (u6.unpinned rfl hF hB0 r1.a0).2.1, by rw [za.len]; exact small_line (Nat.le_of_lt hl), B6, wipeS s6 vs, acc ++ [y], xs ++ [v], u6.repin rfl rfl hF hB0 r1.a0, Evl.Ex.trans e35 e6, za6.app (.cons z6 .nil), q6, wipeS_wipeS⟩
    | false =>
      refine iteF ⟨B5, wipeS s5 vs, acc, xs, (r5.unwipe w4 hv).ctx rfl rfl rfl, e35, za.ex (Evl.Ex.trans g3.k1 e5), p5, wipeS_wipeS⟩
  · obtain ⟨B', s', acc, xs, r', e', za, q, _⟩ := q
    obtain ⟨r2, hDx, hBx, n1, n2⟩ := r'.unpinned rfl hF hB0 r1.a0
    exact k (.list acc) s' D B' H' (done acc s' q) (r2.asTemp hF hBx ⟨_, hDx, rfl⟩ n1 n2) (Evl.Ex.trans e1 e') (.lst hDx za)
theorem vn_lc {vs : List Nat} {g : TG} (hi : VI X c tg it fi) (hg : DGw X.K c.in vs g gt) (hv : vs.all (fun i => !c.io.contains i) = true)
    (h : ∀ {wi : TI}, PI X tg it wi → PE X e (tLc wi g (rT X.K c.in ft) (rE X.K c.in fe) vs)) : VN X c e (wLc vs fi gt ft fe) := by
  obtain ⟨wi, h1, h2⟩ := hi
  refine ⟨_, h h1, d_lc h2 hg fun i m m2 => ?_⟩
  have := List.all_eq_true.mp hv i m
  rw [List.contains_iff_mem.mpr m2] at this
  cases this
/-- y = [..] -/
theorem vs_setLc {st : Stmt} {i : Nat} {vs : List Nat} {g : TG} (hi : VI X c tg it fi) (hg : DGw X.K c.in vs g gt) (hv : vs.all (fun i => !c.io.contains i) = true)
    (h : ∀ {wi : TI}, PI X tg it wi → PS X st (tAsg (tLc wi g (rT X.K c.in ft) (rE X.K c.in fe) vs) (gName i))) (ho : c.o i = false := by rfl) (hio : c.io.contains i = false := by rfl) : VS X c st (sSet i (wLc vs fi gt ft fe)) := by
  obtain ⟨wi, h1, h2⟩ := hi
  refine ⟨_, h h1, ?_⟩
  intro F B s σ H D V r hf k
  refine d_lc h2 hg (fun i m m2 => ?_) F B s σ H _ _ _ r hf (fun d s' a B' H' q r' e z => ?_) (k.er σ)
  · have := List.all_eq_true.mp hv i m
    rw [List.contains_iff_mem.mpr m2] at this
    cases this
  · obtain ⟨B2, r2, e2, z2⟩ := r'.frz z
    exact k.nx _ _ _ _ q (r2.setF z2 ho hio) (Evl.Ex.trans e e2)
theorem vs_setLcN {st : Stmt} {i : Nat} {vs : List Nat} {g : TG} (hi : VI X c tg it fi) (hg : DGw X.K c.in vs g gt) (hv : vs.all (fun i => !c.io.contains i) = true)
    (h : ∀ {wi : TI}, PI X tg it wi → PS X st (tAsg (tLc wi g (rT X.K c.in ft) (rE X.K c.in fe) vs) (gName i))) (ho : c.o i = true := by rfl) (hio : c.io.contains i = false := by rfl) : VS X c st (sSet i (wLc vs fi gt ft fe)) := by
  obtain ⟨wi, h1, h2⟩ := hi
  refine ⟨_, h h1, ?_⟩
  intro F B s σ H D V r hf k
  refine d_lc h2 hg (fun i m m2 => ?_) F B s σ H _ _ _ r hf (fun d s' a B' H' q r' e z => ?_) (k.er σ)
  · have := List.all_eq_true.mp hv i m
    rw [List.contains_iff_mem.mpr m2] at this
    cases this
  · exact k.nx _ _ _ _ q (r'.setO z ho hio) e
end
end Dv
/-! DvMore: built-ins called by name, isinstance, slices, dicts, what changes an owned list or dict, raise. -/
namespace Dv
open PySem PySem.Spec PyProof.Rows L2 Ts
section
variable {X : Cx} {c : Vc} {e a b tg : Expr} {es : List Expr} {st : Stmt} {f fa fb fk fv fe : Wt Dt} {fl : Wt (List Dt)} {pos p : Pos} {i j : Nat}
/-! ### built-ins -/
theorem vx_b1 {u : Value} {g : Dt → Option Dt} (hc : C1V X u g) (ha : VB X c a fa) (h : ∀ {r : List V → Hp → VK → Prop} {t : TA}, CallR X u r → PA X [a] t → PE X e (tCB r t)) (hs : starEach [a] X.env = (false, eval a X.env) :: starEach [] X.env := by rfl) : VX X c e (wUn g fa) := by
  obtain ⟨r, h1, h2⟩ := hc
  obtain ⟨ta, a1, a2⟩ := ha
  exact ⟨_, h h1 (pa_cons a1 pa_nil hs), d_c1 h2 a2⟩
theorem vx_ba {u : Value} {g : List Dt → Option Dt} (hc : CaV X u g) (ha : VA X c es fl) (h : ∀ {r : List V → Hp → VK → Prop} {t : TA}, CallR X u r → PA X es t → PE X e (tCB r t)) : VX X c e (wCa g fl) := by
  obtain ⟨r, h1, h2⟩ := hc
  obtain ⟨ta, a1, a2⟩ := ha
  exact ⟨_, h h1 a1, d_ca h2 a2⟩
/-- one whose answer is a new list -/
def C1L (X : Cx) (u : Value) (g : Dt → Option (List Dt)) : Prop := ∃ r, CallR X u r ∧
  ∀ B H v x ds Q, Ex B H → Rdb X.K B H v x → g x = some ds → (∀ l xs, H l = none → FzA X.K B xs ds → Q (.ref l) (upd H l (.lst xs))) → r [v] H Q
def wNewL (g : Dt → Option (List Dt)) (fa : Wt Dt) : Wt Dt := fun s P E => fa s (fun x s1 => ∃ ds, g x = some ds ∧ P (.list ds) s1) E
theorem vn_b1 {u : Value} {g : Dt → Option (List Dt)} (hc : C1L X u g) (ha : VB X c a fa) (h : ∀ {r : List V → Hp → VK → Prop} {t : TA}, CallR X u r → PA X [a] t → PE X e (tCB r t)) (hs : starEach [a] X.env = (false, eval a X.env) :: starEach [] X.env := by rfl) : VN X c e (wNewL g fa) := by
  obtain ⟨r, h1, h2⟩ := hc
  obtain ⟨ta, a1, a2⟩ := ha
  refine ⟨_, h h1 (pa_cons a1 pa_nil hs), ?_⟩
  intro F B s σ H Q P E rr hf k kx
  refine a2 F B s σ H _ _ E rr hf (fun x s1 v B1 H1 p1 r1 e1 z1 => ?_) kx
  obtain ⟨ds, hg, q⟩ := p1
  exact h2 B1 H1 v x ds Q r1.bh z1 hg fun l xs hl z => k _ s1 _ _ _ q (r1.temp (o := .lst xs) hl rfl) e1 (.lst upd_same z)
theorem cListV : C1L X (.type "list") itemsOf := by
  refine ⟨_, call_list_of, fun B H v x ds Q bh hx hd k => ?_⟩
  obtain ⟨a, xs, rfl, h1, z1⟩ := hx.items bh hd
  exact ⟨a, xs, rfl, h1, fun l hl => k l xs hl z1⟩
/-! ### isinstance -/
/-- a datum whose kind is built in -/
def tyOk : Dt → Bool
  | .ins _ _ => false
  | .ref _ => false
  | .err _ => false
  | .lsF _ => false
  | _ => true
theorem fz_ty {K : PySem.W.Frag} {B : Hp} {v : V} {d : Dt} (h : Fz K B v d) (ok : tyOk d = true) : TyX K B v (.type (kindD d.py)) := by
  cases h with
  | non => exact .base .non
  | bl b => exact .base (.bl b)
  | int i => exact .base (.int i)
  | str z => exact .base (.str z)
  | lst h _ => exact .base (.lst h)
  | tup hs _ =>
    rcases hs with (h | ⟨o, h⟩) | ⟨o, its, n, hk, hc, _⟩
    · exact .base (.tup h)
    · exact .fTuple h
    · exact .kTuple hk hc
  | dic h _ _ => exact .base (.dK h)
  | dct h _ _ => exact .base (.dT h)
  | ins h _ _ => cases ok
  | ref a => cases ok
  | err h => cases ok
  | lsF h => cases ok
def rIsaX (K : PySem.W.Frag) (T : String) : List V → Hp → VK → Prop := fun xs H Q => ∃ (x : V) (k : String), xs = [x, .ty T] ∧ TyX K H x (.type k) ∧ k ∈ kinds7 ∧ Q (.bl (isaK T k)) H
theorem isaX_of {T : String} (h : ∀ k ∈ kinds7, kitB k T = some (isaK T k)) : CallR X (.builtin "isinstance") (rIsaX X.K T) := by
  intro pins s σ H xs us Q I r hq
  obtain ⟨x, k, rfl, ty, hk, q⟩ := hq
  exact call_isi pins s σ H _ us Q I r ⟨x, .ty T, _, _, _, rfl, .ty T, ty, kit_ty (h k hk), q⟩
def gIsa (T : String) (d : Dt) : Option Dt := if tyOk d = true then some (.bool (isaD T d.py)) else none
theorem vx_isa {T : String} {y : Str} {p2 : Pos} (h : ∀ k ∈ kinds7, kitB k T = some (isaK T k)) (hm : X.mg "isinstance" = none) (hy : X.mg y = none) (hv : bootBuiltins y = some (.type T)) (ha : VB X c a fa) (hg : Gl X "isinstance" := by rfl) (hgy : Gl X y := by rfl)
    (hn : y ≠ "__name__" := by decide) (hd : (y == ("__debug__" : Str)) = false := by decide)
    (h1 : starEach [a, .Name y p2] X.env = (false, eval a X.env) :: starEach [.Name y p2] X.env := by rfl) (h2 : starEach [.Name y p2] X.env = [(false, eval (.Name y p2) X.env)] := by rfl)
    (h3 : (backTo pos (starEach [.Name y p2] X.env)).any (·.1) = false := by rfl) : VX X c (.Call (.Name "isinstance" p) [a, .Name y p2] [] pos) (wUn (gIsa T) fa) := by
  obtain ⟨ta, a1, a2⟩ := ha
  refine ⟨_, pe_callB (isaX_of h) hg hm (by decide +kernel) (pa_cons a1 (pa_cons (pe_bltn (v := .ty T) hgy hy hv rfl hn hd) pa_nil h2) h1) (by decide) (by decide) h1 h3, ?_⟩
  intro F B s σ H Q P E rr hf k kx
  refine a2 F B s σ H _ _ E rr hf (fun x s1 v B1 H1 p1 r1 e1 z1 => ?_) kx
  obtain ⟨d, hg, q⟩ := p1
  unfold gIsa at hg
  split at hg
  · rename_i ok
    cases hg
    exact ⟨v, _, rfl, fz_ty (z1.fz r1.bh) ok, kindD_mem x.py, k _ s1 _ B1 H1 q r1 e1 (.bl _)⟩
  · cases hg
/-! ### slices -/
def cutP (xs : List Dt) (lo hi : Option Int) : List Dt := (xs.drop (HT.sIx xs.length 0 lo)).take (HT.sIx xs.length xs.length hi - HT.sIx xs.length 0 lo)
theorem fza_cut {K : PySem.W.Frag} {B : Hp} {vs : List V} {ds : List Dt} (h : FzA K B vs ds) (lo hi : Option Int) : FzA K B (cutV vs lo hi) (cutP ds lo hi) := by
  unfold cutV cutP
  rw [h.len]
  exact (h.drop _).take _
def wNo : Wt (Option Int) := fun s P _ => P none s
def wPt (f : Wt Dt) : Wt (Option Int) := fun s P E => f s (fun d s1 => ∃ i, d = .int i ∧ P (some i) s1) E
def DO (K : PySem.W.Frag) (c : Vc) (t : TO) (f : Wt (Option Int)) : Prop := ∀ F B s σ H Q P E, SR K c F B s σ H [] → f s P E → (∀ o s' B' H', P o s' → SR K c F B' s' σ H' [] → Ex B B' → Q o H') → PostX K c F σ E → t σ H Q
def VO (X : Cx) (c : Vc) (e : Option Expr) (f : Wt (Option Int)) : Prop := ∃ t, PO X e t ∧ DO X.K c t f
variable {fo fh : Wt (Option Int)} {lo hi : Option Expr}
theorem vo_none : VO X c none wNo := ⟨_, po_none, fun F B s σ H Q P E r hf k _ => k none s B H hf r (Evl.Ex.refl _)⟩
theorem vo_some (h : VX X c a fa) : VO X c (some a) (wPt fa) := by
  obtain ⟨te, h1, h2⟩ := h
  refine ⟨_, po_some h1, ?_⟩
  intro F B s σ H Q P E rr hf k kx
  refine h2 F B s σ H _ _ E rr hf (fun x s1 v B1 H1 p1 r1 e1 z1 => ?_) kx
  obtain ⟨n, rfl, q⟩ := p1
  cases z1
  exact ⟨n, rfl, k _ s1 B1 H1 q r1 e1⟩
def wSlT (fa : Wt Dt) (fo fh : Wt (Option Int)) : Wt Dt := fun s P E => fa s (fun x s1 => fo s1 (fun l s2 => fh s2 (fun h s3 => ∃ ds, x = .tuple ds ∧ P (.tuple (cutP ds l h)) s3) E) E) E
def wSlL (fa : Wt Dt) (fo fh : Wt (Option Int)) : Wt Dt := fun s P E => fa s (fun x s1 => fo s1 (fun l s2 => fh s2 (fun h s3 => ∃ ds, x = .list ds ∧ P (.list (cutP ds l h)) s3) E) E) E
def wSlS (fa : Wt Dt) (fo fh : Wt (Option Int)) : Wt Dt := fun s P E => fa s (fun x s1 => fo s1 (fun l s2 => fh s2 (fun h s3 => ∃ z, x = .str z ∧ z.length ≤ 1000000 ∧ P (.str (cutS z l h)) s3) E) E) E
theorem vx_slT (ha : VX X c a fa) (ho : VO X c lo fo) (hh : VO X c hi fh) {p2 : Pos} : VX X c (.Subscript a (.Slice lo hi none p2) pos) (wSlT fa fo fh) := by
  obtain ⟨ta, a1, a2⟩ := ha
  obtain ⟨tl, l1, l2⟩ := ho
  obtain ⟨th, h1, h2⟩ := hh
  refine ⟨_, pe_slice Ts.sl_tupA a1 l1 h1, ?_⟩
  intro F B s σ H Q P E rr hf k kx
  refine a2 F B s σ H _ _ E rr hf (fun x s1 v B1 H1 p1 r1 e1 z1 => ?_) kx
  refine l2 F B1 s1 σ H1 _ _ E r1 p1 (fun l s2 B2 H2 p2 r2 e2 => ?_) kx
  refine h2 F B2 s2 σ H2 _ _ E r2 p2 (fun u s3 B3 H3 p3 r3 e3 => ?_) kx
  obtain ⟨ds, rfl, q⟩ := p3
  have e123 := Evl.Ex.trans e1 (Evl.Ex.trans e2 e3)
  have z3 := z1.ex (Evl.Ex.trans e2 e3)
  cases z3 with
  | tup hs ha =>
    rename_i ad xs
    refine ⟨ad, xs, rfl, (ex_sb r3.bh).t _ _ hs, fun hw => ?_, fun pp hp => ?_⟩
    · refine k _ s3 _ B3 H3 q r3 e123 (.tup hs ?_)
      have := fza_cut ha l u
      rw [hw] at this
      exact this
    · obtain ⟨r4, e4⟩ := r3.laid (o := .tup (cutV xs l u)) hp
      exact k _ s3 _ _ _ q r4 (Evl.Ex.trans e123 e4) (.tup (SqT.of upd_same) ((fza_cut ha l u).ex e4))
theorem vn_slL (ha : VX X c a fa) (ho : VO X c lo fo) (hh : VO X c hi fh) {p2 : Pos} : VN X c (.Subscript a (.Slice lo hi none p2) pos) (wSlL fa fo fh) := by
  obtain ⟨ta, a1, a2⟩ := ha
  obtain ⟨tl, l1, l2⟩ := ho
  obtain ⟨th, h1, h2⟩ := hh
  refine ⟨_, pe_slice sl_list a1 l1 h1, ?_⟩
  intro F B s σ H Q P E rr hf k kx
  refine a2 F B s σ H _ _ E rr hf (fun x s1 v B1 H1 p1 r1 e1 z1 => ?_) kx
  refine l2 F B1 s1 σ H1 _ _ E r1 p1 (fun l s2 B2 H2 p2 r2 e2 => ?_) kx
  refine h2 F B2 s2 σ H2 _ _ E r2 p2 (fun u s3 B3 H3 p3 r3 e3 => ?_) kx
  obtain ⟨ds, rfl, q⟩ := p3
  have z3 := z1.ex (Evl.Ex.trans e2 e3)
  cases z3 with
  | lst hs ha =>
    rename_i ad xs
    refine ⟨ad, xs, rfl, SqL.of (r3.bh _ _ hs), fun pp hp => ?_⟩
    exact k _ s3 _ _ _ q (r3.temp (o := .lst (cutV xs l u)) hp rfl) (Evl.Ex.trans e1 (Evl.Ex.trans e2 e3)) (.lst upd_same (fza_cut ha l u))
/-! ### dicts -/
abbrev Kvs := List (Key × Dt)
def kOf : Dt → Option Key
  | .int i => some (.inl i)
  | .str x => some (.inr x)
  | _ => none
def lookK (es : Kvs) (k : Key) : Option Dt := (es.find? fun q => decide (q.1 = k)).map (·.2)
def putKD (es : Kvs) (k : Key) (d : Dt) : Kvs := if (es.any fun q => decide (q.1 = k)) = true then es.map (fun q => if q.1 = k then (q.1, d) else q) else es ++ [(k, d)]
def mergeKD (es : Kvs) (more : Kvs) : Kvs := more.foldl (fun es q => putKD es q.1 q.2) es
theorem rdb_key {K : PySem.W.Frag} {B H : Hp} {v : V} {d : Dt} {k : Key} (h : Rdb K B H v d) (e : kOf d = some k) : v = kV k := by
  cases d with
  | int i =>
    cases e
    exact h.int
  | str x =>
    cases e
    exact h.str
  | _ => cases e
theorem look_val {K : PySem.W.Frag} {B : Hp} {k : Key} : ∀ {kvs : List (Key × V)} {es : Kvs}, kvs.map (·.1) = es.map (·.1) → FzA K B (kvs.map (·.2)) (es.map (·.2)) →
    (∀ d, lookK es k = some d → ∃ v, valV kvs k = some v ∧ Fz K B v d) ∧ (lookK es k = none → valV kvs k = none)
  | [], [], _, _ => ⟨fun d e => (by cases e), fun _ => rfl⟩
  | [], _ :: _, h, _ => by cases h
  | _ :: _, [], h, _ => by cases h
  | (k', v) :: r, (k2, d) :: es, h, h2 => by
    cases h2 with
    | cons z t =>
      have e1 : k' = k2 := (List.cons.inj h).1
      subst e1
      obtain ⟨h1, h2⟩ := look_val (k := k) (List.cons.inj h).2 t
      have e0 : lookK ((k', d) :: es) k = if k' = k then some d else lookK es k := by
        show ((((k', d) :: es).find? fun q => decide (q.1 = k)).map (·.2)) = _
        rw [List.find?_cons]
        by_cases e : k' = k
        · rw [if_pos e, decide_eq_true e]; rfl
        · rw [if_neg e, decide_eq_false e]; rfl
      rw [e0]
      by_cases e : k' = k
      · rw [if_pos e, valV_pos (p := (k', v)) e]
        exact ⟨fun d' q => by cases q; exact ⟨v, rfl, z⟩, fun q => (by cases q)⟩
      · rw [if_neg e, valV_neg (p := (k', v)) e]
        exact ⟨h1, h2⟩
theorem any_keys {k : Key} : ∀ {kvs : List (Key × V)} {es : Kvs}, kvs.map (·.1) = es.map (·.1) → (es.any fun q => decide (q.1 = k)) = kvs.any fun q => decide (q.1 = k)
  | [], [], _ => rfl
  | [], _ :: _, h => by cases h
  | _ :: _, [], h => by cases h
  | p :: r, q :: es, h => by
    show (decide (q.1 = k) || es.any _) = (decide (p.1 = k) || r.any _)
    rw [any_keys (List.cons.inj h).2, show p.1 = q.1 from (List.cons.inj h).1]
theorem put_val {K : PySem.W.Frag} {B : Hp} {k : Key} {v : V} {d : Dt} (hv : Fz K B v d) {kvs : List (Key × V)} {es : Kvs} (h : kvs.map (·.1) = es.map (·.1)) (h2 : FzA K B (kvs.map (·.2)) (es.map (·.2))) :
    (putK kvs k v).map (·.1) = (putKD es k d).map (·.1) ∧ FzA K B ((putK kvs k v).map (·.2)) ((putKD es k d).map (·.2)) := by
  unfold putKD putK
  rw [any_keys h]
  by_cases hc : (kvs.any fun kv => decide (kv.1 = k)) = true
  · rw [if_pos hc, if_pos hc]
    clear hc
    induction kvs generalizing es with
    | nil =>
      cases es with
      | nil => exact ⟨rfl, .nil⟩
      | cons _ _ => cases h
    | cons p r ih =>
      cases es with
      | nil => cases h
      | cons q es =>
        have e1 : p.1 = q.1 := (List.cons.inj h).1
        cases h2 with
        | cons z t =>
          obtain ⟨i1, i2⟩ := ih (List.cons.inj h).2 t
          rw [List.map_cons, List.map_cons, List.map_cons, List.map_cons]
          by_cases e : p.1 = k
          · rw [if_pos e, if_pos (e1 ▸ e)]
            exact ⟨by rw [i1]; exact congrArg (· :: _) e1, .cons hv i2⟩
          · rw [if_neg e, if_neg (e1 ▸ e)]
            exact ⟨by rw [i1, e1], .cons z i2⟩
  · rw [if_neg hc, if_neg hc, List.map_append, List.map_append, List.map_append, List.map_append, h]
    exact ⟨rfl, h2.app (.cons hv .nil)⟩
theorem merge_val {K : PySem.W.Frag} {B : Hp} : ∀ {more : List (Key × V)} {ms : Kvs} {kvs : List (Key × V)} {es : Kvs}, more.map (·.1) = ms.map (·.1) → FzA K B (more.map (·.2)) (ms.map (·.2)) → kvs.map (·.1) = es.map (·.1) → FzA K B (kvs.map (·.2)) (es.map (·.2)) →
    (mergeK kvs more).map (·.1) = (mergeKD es ms).map (·.1) ∧ FzA K B ((mergeK kvs more).map (·.2)) ((mergeKD es ms).map (·.2))
  | [], [], _, _, _, _, h, h' => ⟨h, h'⟩
  | [], _ :: _, _, _, h, _, _, _ => by cases h
  | _ :: _, [], _, _, h, _, _, _ => by cases h
  | (k, v) :: more, (k2, d) :: ms, kvs, es, h1, h2, h3, h4 => by
    have e1 : k = k2 := (List.cons.inj h1).1
    subst e1
    cases h2 with
    | cons z t =>
      obtain ⟨q1, q2⟩ := put_val (k := k) z h3 h4
      exact merge_val (more := more) (ms := ms) (kvs := putK kvs k v) (es := putKD es k d) (List.cons.inj h1).2 t q1 q2
/-- d[k] -/
def gDGet : Dt → Dt → Option Dt
  | .dic es, k => (kOf k).bind (lookK es)
  | _, _ => none
/-- k in d -/
def gDIn (neg : Bool) : Dt → Dt → Option Dt
  | k, .dic es => (kOf k).map fun k => .bool (if neg then !(lookK es k).isSome else (lookK es k).isSome)
  | _, _ => none
theorem dget_ok {K : PySem.W.Frag} {B H : Hp} {x y : V} {es : Kvs} {kd : Dt} {k : Key} (hx : Rdb K B H x (.dic es)) (hy : Rdb K B H y kd) (bh : Ex B H) (h : kOf kd = some k) :
    ∃ a o, x = .ref a ∧ DGet H a y o ∧ IsD H a ∧ o.isSome = (lookK es k).isSome ∧ ∀ d, lookK es k = some d → ∃ v, o = some v ∧ Fz K B v d := by
  have := rdb_key hy h
  subst this
  obtain ⟨a, kvs, rfl, h1, h2, z⟩ := hx.dic bh
  obtain ⟨l1, l2⟩ := look_val (k := k) h2 z
  refine ⟨a, valV kvs k, rfl, .inl ⟨kvs, k, .inl h1, rfl, rfl⟩, .inl ⟨kvs, .inl h1⟩, ?_, l1⟩
  cases e : lookK es k with
  | none => rw [l2 e]; rfl
  | some d =>
    obtain ⟨v, q, _⟩ := l1 d e
    rw [q]; rfl
theorem d_dgetL {fa : Wt ArgV} {ta tb : TE} (ha : DL X.K c ta fa) (hb : DX X.K c tb fb) : DX X.K c (tDGet ta tb) (wOpL gDGet fa fb) := by
  intro F B s σ H Q P E rr hf k kx
  refine ha F B s σ H _ _ E rr hf (fun h s1 v B1 H1 p1 r1 e1 z1 => ?_) kx
  refine hb F B1 s1 σ H1 _ _ E r1 p1 (fun y s2 u B2 H2 p2 r2 e2 z2 => ?_) kx
  obtain ⟨x, hx, d, hg, q⟩ := p2
  have zx := rdb_at r2 (z1.ex e2) hx
  cases x with
  | dic es =>
    have hg : (kOf y).bind (lookK es) = some d := hg
    cases hk : kOf y with
    | none => rw [hk] at hg; cases hg
    | some k' =>
      rw [hk] at hg
      obtain ⟨a, o, rfl, h1, _, _, h2⟩ := dget_ok zx (.inl z2) r2.bh hk
      obtain ⟨w, rfl, z⟩ := h2 d hg
      exact ⟨a, w, rfl, h1, k d s2 w B2 H2 q r2 (Evl.Ex.trans e1 e2) z⟩
  | _ => cases hg
theorem vx_dgetL {fa : Wt ArgV} (hu : X.A.units + 1 < cLine) (ha : VL X c a fa) (hb : VX X c b fb) (hs : NoSl b := by intro _ _; rfl) : VX X c (.Subscript a b pos) (wOpL gDGet fa fb) := by
  obtain ⟨ta, a1, a2⟩ := ha
  obtain ⟨tb, b1, b2⟩ := hb
  exact ⟨_, pe_dget hu a1 b1 hs, d_dgetL a2 b2⟩
theorem d_din {ta tb : TE} (ha : DX X.K c ta fa) (hb : DB X.K c tb fb) : DX X.K c (tDIn ta tb) (wOp (gDIn false) fa fb) := by
  intro F B s σ H Q P E rr hf k kx
  refine ha F B s σ H _ _ E rr hf (fun x s1 v B1 H1 p1 r1 e1 z1 => ?_) kx
  refine hb F B1 s1 σ H1 _ _ E r1 p1 (fun y s2 u B2 H2 p2 r2 e2 z2 => ?_) kx
  obtain ⟨d, hg, q⟩ := p2
  cases y with
  | dic es =>
    have hg : (kOf x).map _ = some d := hg
    cases hk : kOf x with
    | none => rw [hk] at hg; cases hg
    | some k' =>
      rw [hk] at hg
      cases hg
      obtain ⟨a, o, rfl, h1, _, h3, _⟩ := dget_ok z2 (.inl (z1.ex e2)) r2.bh hk
      refine ⟨a, o, rfl, h1, ?_⟩
      rw [h3]
      exact k _ s2 _ B2 H2 q r2 (Evl.Ex.trans e1 e2) (.bl _)
  | _ => cases hg
theorem d_dnin {ta tb : TE} (ha : DX X.K c ta fa) (hb : DB X.K c tb fb) : DX X.K c (tDNotIn ta tb) (wOp (gDIn true) fa fb) := by
  intro F B s σ H Q P E rr hf k kx
  refine ha F B s σ H _ _ E rr hf (fun x s1 v B1 H1 p1 r1 e1 z1 => ?_) kx
  refine hb F B1 s1 σ H1 _ _ E r1 p1 (fun y s2 u B2 H2 p2 r2 e2 z2 => ?_) kx
  obtain ⟨d, hg, q⟩ := p2
  cases y with
  | dic es =>
    have hg : (kOf x).map _ = some d := hg
    cases hk : kOf x with
    | none => rw [hk] at hg; cases hg
    | some k' =>
      rw [hk] at hg
      cases hg
      obtain ⟨a, o, rfl, h1, _, h3, _⟩ := dget_ok z2 (.inl (z1.ex e2)) r2.bh hk
      refine ⟨a, o, rfl, h1, ?_⟩
      rw [h3]
      exact k _ s2 _ B2 H2 q r2 (Evl.Ex.trans e1 e2) (.bl _)
  | _ => cases hg
theorem vx_din (hu : X.A.units + 1 < cLine) (ha : VX X c a fa) (hb : VB X c b fb) (h : ∀ {t : TE}, PC X .In a b t → PE X e t) : VX X c e (wOp (gDIn false) fa fb) := by
  obtain ⟨ta, a1, a2⟩ := ha
  obtain ⟨tb, b1, b2⟩ := hb
  exact ⟨_, h (pc_din hu a1 b1), d_din a2 b2⟩
theorem vx_dnin (hu : X.A.units + 1 < cLine) (ha : VX X c a fa) (hb : VB X c b fb) (h : ∀ {t : TE}, PC X .NotIn a b t → PE X e t) : VX X c e (wOp (gDIn true) fa fb) := by
  obtain ⟨ta, a1, a2⟩ := ha
  obtain ⟨tb, b1, b2⟩ := hb
  exact ⟨_, h (pc_dnotin hu a1 b1), d_dnin a2 b2⟩
theorem vt_din (hu : X.A.units + 1 < cLine) (ha : VX X c a fa) (hb : VB X c b fb) (h : ∀ {t : TE}, PC X .In a b t → PT X e (tB t)) : VT X c e (wTst (wOp (gDIn false) fa fb)) := by
  obtain ⟨ta, a1, a2⟩ := ha
  obtain ⟨tb, b1, b2⟩ := hb
  exact ⟨_, h (pc_din hu a1 b1), d_tst (d_din a2 b2)⟩
theorem vt_dnin (hu : X.A.units + 1 < cLine) (ha : VX X c a fa) (hb : VB X c b fb) (h : ∀ {t : TE}, PC X .NotIn a b t → PT X e (tB t)) : VT X c e (wTst (wOp (gDIn true) fa fb)) := by
  obtain ⟨ta, a1, a2⟩ := ha
  obtain ⟨tb, b1, b2⟩ := hb
  exact ⟨_, h (pc_dnotin hu a1 b1), d_tst (d_dnin a2 b2)⟩
/-- a dict that is written out: keys and values, from the left -/
abbrev Prs := List (Dt × Dt)
def wPairs : List (Wt Dt × Wt Dt) → Wt Prs
  | [] => fun s P _ => P [] s
  | (fk, fv) :: r => fun s P E => fk s (fun k s1 => fv s1 (fun v s2 => wPairs r s2 (fun ps s3 => P ((k, v) :: ps) s3) E) E) E
def DP (K : PySem.W.Frag) (c : Vc) : List (TE × TE) → List (Wt Dt × Wt Dt) → Prop
  | [], [] => True
  | (tk, tv) :: r, (fk, fv) :: q => DX K c tk fk ∧ DX K c tv fv ∧ DP K c r q
  | _, _ => False
theorem d_pairs {K : PySem.W.Frag} : ∀ {trs : List (TE × TE)} {fs : List (Wt Dt × Wt Dt)}, DP K c trs fs → ∀ {F B s σ H} {Q : List (V × V) → Hp → Prop} {P : Prs → Sl → Prop} {E}, SR K c F B s σ H [] → wPairs fs s P E →
    (∀ ps s' vs B' H', P ps s' → SR K c F B' s' σ H' [] → Ex B B' → FzA K B' (vs.map (·.1)) (ps.map (·.1)) → FzA K B' (vs.map (·.2)) (ps.map (·.2)) → Q vs H') → PostX K c F σ E → tPairs trs σ H Q
  | [], [], _, F, B, s, σ, H, Q, P, E, r, hf, k, _ => k [] s [] B H hf r (Evl.Ex.refl _) .nil .nil
  | [], _ :: _, h, _, _, _, _, _, _, _, _, _, _, _, _ => h.elim
  | (_, _) :: _, [], h, _, _, _, _, _, _, _, _, _, _, _, _ => h.elim
  | (tk, tv) :: r, (fk, fv) :: q, h, F, B, s, σ, H, Q, P, E, rr, hf, k, kx => by
    obtain ⟨h1, h2, h3⟩ := h
    unfold tPairs
    refine h1 F B s σ H _ _ E rr hf (fun kd s1 kv B1 H1 p1 r1 e1 z1 => ?_) kx
    refine h2 F B1 s1 σ H1 _ _ E r1 p1 (fun vd s2 vv B2 H2 p2 r2 e2 z2 => ?_) kx
    refine d_pairs h3 r2 p2 (fun ps s3 vs B3 H3 p3 r3 e3 z3 z4 => ?_) kx
    exact k _ s3 _ B3 H3 p3 r3 (Evl.Ex.trans e1 (Evl.Ex.trans e2 e3)) (.cons (z1.ex (Evl.Ex.trans e2 e3)) z3) (.cons (z2.ex e3) z4)
def ksOf : Prs → Option Kvs
  | [] => some []
  | (k, v) :: r => match kOf k, ksOf r with
    | some k, some es => some ((k, v) :: es)
    | _, _ => none
def wDisp (fs : List (Wt Dt × Wt Dt)) : Wt Dt := fun s P E => wPairs fs s (fun ps s1 => ∃ es, ksOf ps = some es ∧ ps.length ≤ 15 ∧ P (.dic (mergeKD [] es)) s1) E
theorem keys_of {K : PySem.W.Frag} {B : Hp} : ∀ {ps : Prs} {vs : List (V × V)} {es : Kvs}, ksOf ps = some es → FzA K B (vs.map (·.1)) (ps.map (·.1)) → FzA K B (vs.map (·.2)) (ps.map (·.2)) →
    ∃ kvs : List (Key × V), vs = kvs.map (fun kv => (kV kv.1, kv.2)) ∧ kvs.map (·.1) = es.map (·.1) ∧ FzA K B (kvs.map (·.2)) (es.map (·.2)) ∧ es.length = ps.length
  | [], [], es, h, _, _ => by
    cases h
    exact ⟨[], rfl, rfl, .nil, rfl⟩
  | [], _ :: _, _, _, h, _ => by cases h
  | _ :: _, [], _, _, h, _ => by cases h
  | (kd, vd) :: ps, (kv, vv) :: vs, es, hk, h1, h2 => by
    unfold ksOf at hk
    split at hk
    · rename_i k' es' q1 q2
      cases hk
      cases h1 with
      | cons z1 t1 =>
        cases h2 with
        | cons z2 t2 =>
          obtain ⟨kvs, w1, w2, w3, w4⟩ := keys_of q2 t1 t2
          have this : kv = kV k' := rdb_key (H := B) (.inl z1) q1
          subst this
          exact ⟨(k', vv) :: kvs, by rw [w1]; rfl, by show k' :: kvs.map (·.1) = k' :: _; rw [w2], .cons z2 w3, congrArg Nat.succ w4⟩
    · cases hk
theorem d_disp {K : PySem.W.Frag} {trs : List (TE × TE)} {fs : List (Wt Dt × Wt Dt)} (h : DP K c trs fs) : DN K c (tDisp trs) (wDisp fs) := by
  intro F B s σ H Q P E r hf k kx
  intro p hp
  have hF : ¬ PN F.H0 p := r.f0 hp
  have hB := r.bn hp
  have hB0 : F.B0 p = none := by
    cases e : F.B0 p with
    | none => rfl
    | some o => rw [r.eb _ _ e] at hB; cases hB
  have r2 : SR K c F B s σ (upd H p (.dK [])) [] := r.step (Evl.Ex.refl _) (Evl.Ex.trans r.bh (ex_new hp)) (fun _ _ => rfl) (ex_new hp)
  have r3 : SR K c (F.pin p (.dK [])) B s σ (upd H p (.dK [])) [] := r2.pinned hF hB upd_same rfl (r.noOs hp) (r.noCs hp)
  have kx3 : PostX K c (F.pin p (.dK [])) σ E := fun n s' B' H' q r' => kx n s' B' H' q (r'.unpinned rfl hF hB0 r.a0).1
  refine d_pairs h r3 hf (fun ps s' vs B' H' q r' e' z1 z2 => ?_) kx3
  obtain ⟨es, hk, hl, q⟩ := q
  obtain ⟨u1, u2, u3, u4, u5⟩ := r'.unpinned rfl hF hB0 r.a0
  obtain ⟨kvs, w1, w2, w3, w4⟩ := keys_of hk z1 z2
  obtain ⟨y1, y2⟩ := merge_val (kvs := []) (es := []) w2 w3 rfl .nil
  have hll : kvs.length = ps.length := by
    have := congrArg List.length w2
    rw [List.length_map, List.length_map, w4] at this
    exact this
  refine ⟨u2, kvs, w1, by omega, ?_⟩
  have r5 := (r'.repin (o' := .dK (mergeK [] kvs)) rfl rfl hF hB0 r.a0).unpinned rfl hF hB0 r.a0
  exact k (.dic (mergeKD [] es)) s' p B' _ q (r5.1.asTemp hF r5.2.2.1 ⟨_, r5.2.1, rfl⟩ r5.2.2.2.1 r5.2.2.2.2) e' (.dic upd_same y1 y2)
def VP (X : Cx) (c : Vc) (pos : Pos) (keys : List (Option Expr)) (values : List Expr) (fs : List (Wt Dt × Wt Dt)) : Prop := ∃ trs, PPs X pos keys values trs ∧ DP X.K c trs fs
variable {keys : List (Option Expr)} {values : List Expr} {fs : List (Wt Dt × Wt Dt)}
theorem vp_nil : VP X c pos [] [] [] := ⟨[], pps_nil, trivial⟩
theorem vp_cons (hk : VX X c a fa) (hv : VX X c b fb) (h : VP X c pos keys values fs) (hp : ∀ {tk tv : TE} {trs : List (TE × TE)}, PE X a tk → PE X b tv → PPs X pos keys values trs → PPs X pos (some a :: keys) (b :: values) ((tk, tv) :: trs) := by intro _ _ _ h1 h2 h3; exact pps_cons h1 h2 h3) :
    VP X c pos (some a :: keys) (b :: values) ((fa, fb) :: fs) := by
  obtain ⟨tk, k1, k2⟩ := hk
  obtain ⟨tv, v1, v2⟩ := hv
  obtain ⟨trs, h1, h2⟩ := h
  exact ⟨_, hp k1 v1 h1, k2, v2, h2⟩
theorem vn_disp (h : VP X c pos keys values fs) (hp : ∀ {trs : List (TE × TE)}, PPs X pos keys values trs → PE X e (tDisp trs)) : VN X c e (wDisp fs) := by
  obtain ⟨trs, h1, h2⟩ := h
  exact ⟨_, hp h1, d_disp h2⟩
def wNewD : Wt Dt := fun s P _ => P (.dic []) s
theorem vn_newD (h : PE X e tDNewK) : VN X c e wNewD := by
  refine ⟨_, h, ?_⟩
  intro F B s σ H Q P E r hf k kx
  intro p hp
  exact k _ s _ B _ hf (r.temp (o := .dK []) hp rfl) (Evl.Ex.refl _) (.dic (kvs := []) (es := []) upd_same rfl .nil)

/-! ### what changes a handled thing -/
def MuV (X : Cx) (T id : String) (g : Dt → List Dt → Option (Dt × Dt)) : Prop := ∃ r, MtR X id r ∧ ∀ B H ad d xs vs w d' Q, Ex B H → Own X.K B H ad d → FzA X.K B vs xs → g d xs = some (w, d') →
  (∀ u H', (∀ b, b ≠ ad → H' b = H b) → Own X.K B H' ad d' → Fz X.K B u w → Q u H') → r (.ref ad) vs H Q
def isTy (T : String) : Dt → Bool
  | .list _ => T == "list"
  | .dic _ => T == "dict"
  | .dct _ => T == "dict"
  | _ => false
def wMu (T : String) (g : Dt → List Dt → Option (Dt × Dt)) (fo : Wt ArgV) (fl : Wt (List Dt)) : Wt Dt := fun s P E => fo s (fun h s0 => (plc h).isSome = true ∧ ∃ d0, valOf s0 h = some d0 ∧ isTy T d0 = true ∧
  fl s0 (fun xs s1 => ∃ d, valOf s1 h = some d ∧ ∃ w d', g d xs = some (w, d') ∧ P w (putA s1 h d')) E) E
theorem own_ty {K : PySem.W.Frag} {B H : Hp} {a : Addr} {d : Dt} {T : String} (h : Own K B H a d) (ht : isTy T d = true) : tyV K T (.ref a) H := by
  cases h with
  | lst h _ => exact .inl ⟨beq_iff_eq.mp ht, _, SqL.of h⟩
  | dic h _ _ => exact .inr (.inr (.inl ⟨beq_iff_eq.mp ht, .inl ⟨_, h⟩⟩))
  | dct h _ _ => exact .inr (.inr (.inl ⟨beq_iff_eq.mp ht, .inr ⟨_, h⟩⟩))
  | ins h _ _ => cases ht
theorem d_mu {fo : Wt ArgV} {T id : String} {g : Dt → List Dt → Option (Dt × Dt)} {r : V → List V → Hp → VK → Prop} {to : TE} {ta : TA} (hr : ∀ B H ad d xs vs w d' Q, Ex B H → Own X.K B H ad d → FzA X.K B vs xs → g d xs = some (w, d') →
  (∀ u H', (∀ b, b ≠ ad → H' b = H b) → Own X.K B H' ad d' → Fz X.K B u w → Q u H') → r (.ref ad) vs H Q) (ho : DL X.K c to fo) (ha : DA X.K c ta fl) : DX X.K c (tBM X.K T r to ta) (wMu T g fo fl) := by
  intro F B s σ H Q P E rr hf k kx
  refine ho F B s σ H _ _ E rr hf (fun h s0 v B0 H0 p0 r0 e0 z0 => ?_) kx
  obtain ⟨hp, d0, h0, ht, hf⟩ := p0
  obtain ⟨ad, rfl, y0, _⟩ := r0.chgA z0 h0 hp
  refine ⟨own_ty y0 ht, ha F B0 s0 σ H0 _ _ E r0 hf (fun xs s1 vs B1 H1 p1 r1 e2 z2 => ?_) kx⟩
  obtain ⟨d, hd, w, d', hg, q⟩ := p1
  obtain ⟨ad', ea, y1, chg⟩ := r1.chgA (z0.ex e2) hd hp
  cases ea
  exact hr B1 H1 ad d xs vs w d' Q r1.bh y1 z2 hg fun u H' k1 k2 z => k w _ u B1 H' q (chg H' d' k1 k2) (Evl.Ex.trans e0 e2) z
theorem d_mu0 {fo : Wt ArgV} {T id : String} {g : Dt → List Dt → Option (Dt × Dt)} {to : TE} {r : V → List V → Hp → VK → Prop} (hr : ∀ B H ad d xs vs w d' Q, Ex B H → Own X.K B H ad d → FzA X.K B vs xs → g d xs = some (w, d') →
  (∀ u H', (∀ b, b ≠ ad → H' b = H b) → Own X.K B H' ad d' → Fz X.K B u w → Q u H') → r (.ref ad) vs H Q) (ho : DL X.K c to fo) : DX X.K c (tBM0 X.K T r to) (wMu T g fo wNil) := by
  intro F B s σ H Q P E rr hf k kx
  refine ho F B s σ H _ _ E rr hf (fun h s0 v B0 H0 p0 r0 e0 z0 => ?_) kx
  obtain ⟨hp, d0, h0, ht, d, hd, w, d', hg, q⟩ := p0
  obtain ⟨ad, rfl, y0, chg⟩ := r0.chgA z0 hd hp
  have ed : d0 = d := Option.some.inj (h0.symm.trans hd)
  subst ed
  exact ⟨own_ty y0 ht, hr B0 H0 ad _ [] [] w d' Q r0.bh y0 .nil hg fun u H' k1 k2 z => k w _ u B0 H' q (chg H' d' k1 k2) e0 z⟩
theorem vx_mu {fo : Wt ArgV} {T id : String} {g : Dt → List Dt → Option (Dt × Dt)} (hm : MuV X T id g) (ho : VL X c a fo) (ha : VA X c es fl) (h : ∀ {r : V → List V → Hp → VK → Prop} {to : TE} {t : TA}, MtR X id r → PE X a to → PA X es t → PE X e (tBM X.K T r to t)) : VX X c e (wMu T g fo fl) := by
  obtain ⟨r, h1, h2⟩ := hm
  obtain ⟨to, o1, o2⟩ := ho
  obtain ⟨ta, a1, a2⟩ := ha
  exact ⟨_, h h1 o1 a1, d_mu (id := id) h2 o2 a2⟩
theorem vx_mu0 {fo : Wt ArgV} {T id : String} {g : Dt → List Dt → Option (Dt × Dt)} (hm : MuV X T id g) (ho : VL X c a fo) (h : ∀ {r : V → List V → Hp → VK → Prop} {to : TE}, MtR X id r → PE X a to → PE X e (tBM0 X.K T r to)) : VX X c e (wMu T g fo wNil) := by
  obtain ⟨r, h1, h2⟩ := hm
  obtain ⟨to, o1, o2⟩ := ho
  exact ⟨_, h h1 o1, d_mu0 (id := id) h2 o2⟩
def gAppend : Dt → List Dt → Option (Dt × Dt)
  | .list ds, [x] => if ds.length < 1000000 then some (.none, .list (ds ++ [x])) else none
  | _, _ => none
theorem muAppend : MuV X "list" "list.append" gAppend := by
  refine ⟨_, mt_append, fun B H ad d xs vs w d' Q bh ho hx hg k => ?_⟩
  unfold gAppend at hg
  split at hg
  · split at hg
    · rename_i hl
      cases hg
      cases ho with
      | lst h t =>
        cases hx with
        | cons z zs =>
          cases zs
          exact ⟨ad, _, _, rfl, rfl, h, by rw [t.len]; exact small_line (Nat.le_of_lt hl), k _ _ (fun b nb => upd_ne nb) (.lst upd_same (t.app (.cons z .nil))) .non⟩
    · cases hg
  · cases hg
def gExtend : Dt → List Dt → Option (Dt × Dt)
  | .list ds, [.list es] => if ds.length + es.length ≤ 1000000 then some (.none, .list (ds ++ es)) else none
  | _, _ => none
theorem muExtend : MuV X "list" "list.extend" gExtend := by
  refine ⟨_, mt_extend, fun B H ad d xs vs w d' Q bh ho hx hg k => ?_⟩
  unfold gExtend at hg
  split at hg
  · split at hg
    · rename_i hl
      cases hg
      cases ho with
      | lst h t =>
        cases hx with
        | cons z zs =>
          cases zs
          cases z with
          | lst h2 t2 => exact ⟨ad, _, _, _, rfl, rfl, h, bh _ _ h2, line_of (by rw [t.len, t2.len]; exact hl), k _ _ (fun b nb => upd_ne nb) (.lst upd_same (t.app t2)) .non⟩
    · cases hg
  · cases hg
def gPop : Dt → List Dt → Option (Dt × Dt)
  | .list ds, [] => (ds[ds.length - 1]?).map fun d => (d, .list ds.dropLast)
  | _, _ => none
theorem FzA.dropLast {K : PySem.W.Frag} {B : Hp} {vs : List V} {ds : List Dt} (h : FzA K B vs ds) : FzA K B vs.dropLast ds.dropLast := by
  rw [List.dropLast_eq_take, List.dropLast_eq_take, h.len]
  exact h.take _
theorem muPop : MuV X "list" "list.pop" gPop := by
  refine ⟨_, mt_pop, fun B H ad d xs vs w d' Q bh ho hx hg k => ?_⟩
  unfold gPop at hg
  split at hg
  · rename_i ds
    cases e : ds[ds.length - 1]? with
    | none => rw [e] at hg; cases hg
    | some y =>
      rw [e] at hg
      cases hg
      cases ho with
      | lst h t =>
        cases hx
        obtain ⟨v, e2, z⟩ := t.getD e
        exact ⟨ad, _, v, rfl, rfl, h, by rw [t.len]; exact e2, k _ _ (fun b nb => upd_ne nb) (.lst upd_same t.dropLast) z⟩
  · cases hg
def gPopAt : Dt → List Dt → Option (Dt × Dt)
  | .list ds, [.int i] => if 0 ≤ i ∧ i < 1000000 then (ds[i.toNat]?).map fun d => (d, .list (ds.eraseIdx i.toNat)) else none
  | _, _ => none
theorem muPopAt : MuV X "list" "list.pop" gPopAt := by
  refine ⟨_, mt_popAt, fun B H ad d xs vs w d' Q bh ho hx hg k => ?_⟩
  unfold gPopAt at hg
  split at hg
  · rename_i ds i
    split at hg
    · rename_i hi
      cases e : ds[i.toNat]? with
      | none => rw [e] at hg; cases hg
      | some y =>
        rw [e] at hg
        cases hg
        cases ho with
        | lst h t =>
          cases hx with
          | cons z zs =>
            cases zs
            cases z
            obtain ⟨v, e2, z⟩ := t.getD e
            have hl := (List.getElem?_eq_some_iff.mp e2).1
            exact ⟨ad, _, i, i.toNat, v, rfl, rfl, h, by omega, by omega, seqIndex_of hi.1 (by omega), e2, k _ _ (fun b nb => upd_ne nb) (.lst upd_same (t.erase _)) z⟩
    · cases hg
  · cases hg
/-! ### statements -/
/-- d[k] = v, a handled dict -/
def sPutD (fo : Wt ArgV) (fk fv : Wt Dt) : Ws := fun s V => fv s (fun v s1 => fo s1 (fun h s2 => (plc h).isSome = true ∧ fk s2 (fun kd s3 => ∃ es k, valOf s3 h = some (.dic es) ∧ kOf kd = some k ∧ es.length < 1000000 ∧ V.nx (putA s3 h (.dic (putKD es k v)))) V.er) V.er) V.er
theorem d_putD {fo : Wt ArgV} {td tk tv : TE} (ho : DL X.K c td fo) (hk : DX X.K c tk fk) (hv : DX X.K c tv fv) : DS X.K c (sDPut td tk tv) (sPutD fo fk fv) := by
  intro F B s σ H D V r hf kk
  refine hv F B s σ H _ _ _ r hf (fun v s1 vv B1 H1 p1 r1 e1 z1 => ?_) (kk.er σ)
  refine ho F B1 s1 σ H1 _ _ _ r1 p1 (fun h s2 u B2 H2 p2 r2 e2 z2 => ?_) (kk.er σ)
  obtain ⟨hp, p2⟩ := p2
  refine hk F B2 s2 σ H2 _ _ _ r2 p2 (fun kd s3 kv B3 H3 p3 r3 e3 z3 => ?_) (kk.er σ)
  obtain ⟨es, k, h1, hk, hl, q⟩ := p3
  obtain ⟨ad, rfl, y, chg⟩ := r3.chgA (z2.ex e3) h1 hp
  have := rdb_key (H := H3) (.inl z3) hk
  subst this
  cases y with
  | dic hH hm zz =>
    rename_i kvs
    obtain ⟨w1, w2⟩ := put_val (k := k) (z1.ex (Evl.Ex.trans e2 e3)) hm zz
    have hll : kvs.length = es.length := by
      have := congrArg List.length hm
      rw [List.length_map, List.length_map] at this
      exact this
    refine ⟨ad, _, rfl, .inl ⟨kvs, k, hH, rfl, small_line (Nat.le_of_lt (by omega)), rfl⟩, ?_⟩
    exact kk.nx _ _ _ _ q (chg _ _ (fun b nb => upd_ne nb) (.dic upd_same w1 w2)) (Evl.Ex.trans e1 (Evl.Ex.trans e2 e3))
theorem vs_putD {fo : Wt ArgV} (ho : VL X c a fo) (hk : VX X c b fk) (hv : VX X c e fv) (h : ∀ {td tk tv : TE}, PE X a td → PE X b tk → PE X e tv → PS X st (sDPut td tk tv)) : VS X c st (sPutD fo fk fv) := by
  obtain ⟨to, o1, o2⟩ := ho
  obtain ⟨tk, k1, k2⟩ := hk
  obtain ⟨tv, v1, v2⟩ := hv
  exact ⟨_, h o1 k1 v1, d_putD o2 k2 v2⟩
/-- x += e, ints -/
def sAugI (i : Nat) (g : Int → Int → Int) (fe : Wt Dt) : Ws := fun s V => ∃ n, s.l[i]? = some (some (.int n)) ∧ fe s (fun y s1 => ∃ m, y = .int m ∧ V.nx (s1.set i (some (.int (g n m))))) V.er
theorem vs_augI {g : Int → Int → Int} (he : VX X c a fe) (h : ∀ {te : TE}, PE X a te → PS X st (tAug i te (ipI g))) (ho : c.o i = false := by rfl) (hi : c.io.contains i = false := by rfl) : VS X c st (sAugI i g fe) := by
  obtain ⟨te, h1, h2⟩ := he
  refine ⟨_, h h1, ?_⟩
  intro F B s σ H D V r hf k
  obtain ⟨n, h0, hf⟩ := hf
  obtain ⟨v, e1, z⟩ := r.get h0 ho
  cases z
  refine ⟨_, e1, h2 F B s σ H _ _ _ r hf (fun y s1 u B1 H1 p1 r1 e2 z1 => ?_) (k.er σ)⟩
  obtain ⟨m, rfl, q⟩ := p1
  cases z1
  exact ⟨n, m, rfl, rfl, k.nx _ _ _ _ q (r1.setF (.int _) ho hi) e2⟩
/-- x += e, a list that slot i owns -/
def sAugL (i : Nat) (fe : Wt Dt) : Ws := fun s V => ∃ d0, s.l[i]? = some (some d0) ∧ fe s (fun y s1 => ∃ ds es, y = .list es ∧ s1.l[i]? = some (some (.list ds)) ∧ ds.length + es.length ≤ 1000000 ∧ V.nx (s1.set i (some (.list (ds ++ es))))) V.er
theorem set_same {σ : L2.St} {i : Nat} {x : Option V} (h : σ[i]? = some x) : σ.set i x = σ := by
  apply List.ext_getElem?
  intro j
  by_cases e : i = j
  · rw [← e, List.getElem?_set_self (List.getElem?_eq_some_iff.mp h).1, h]
  · rw [List.getElem?_set_ne e]
theorem vs_augL (he : VX X c a fe) (h : ∀ {te : TE}, PE X a te → PS X st (tAug i te rExt2)) (ho : c.o i = true := by rfl) : VS X c st (sAugL i fe) := by
  obtain ⟨te, h1, h2⟩ := he
  refine ⟨_, h h1, ?_⟩
  intro F B s σ H D V r hf k
  obtain ⟨d0, h0, hf⟩ := hf
  obtain ⟨a0, e1, z, _⟩ := r.own h0 ho
  refine ⟨_, e1, h2 F B s σ H _ _ _ r hf (fun y s1 u B1 H1 p1 r1 e2 z1 => ?_) (k.er σ)⟩
  obtain ⟨ds, es, rfl, h3, hl, q⟩ := p1
  obtain ⟨a1, e1', y', os⟩ := r1.own h3 ho
  rw [e1] at e1'
  cases e1'
  cases y' with
  | lst hs t =>
    cases z1 with
    | lst hs2 t2 =>
      refine ⟨_, _, _, _, rfl, rfl, hs, r1.bh _ _ hs2, line_of (by rw [t.len, t2.len]; exact hl), ?_⟩
      dsimp only
      rw [set_same e1]
      exact k.nx _ _ _ _ q (r1.change os (fun b nb => upd_ne nb) (.lst upd_same (t.app t2))) e2
/-- raise X('..') -/
def sRaise (n : Str) : Ws := fun s V => V.er n s
theorem vs_raise {n : Str} (h : PS X st (fun _ σ H => (fun (_ : L2.St) (H : Hp) (Q : XK) => Q (.ref (He.ga X.K n)) none H) σ H fun cls d H' => c.W cls d σ H')) : VS X c st (sRaise n) := by
  refine ⟨_, h, ?_⟩
  intro F B s σ H D V r hf k
  exact k.er σ n s B H hf r
theorem vs_raiseE {n m : Str} {j : Nat} {p p2 q q2 : Pos} (hc : X.calm = true) (tk : Takes X c.W) (he : PySem.W.excIn X.K (He.ga X.K n) He.veBase "ValueError.__new__" = true ∧ PySem.W.keepIn X.K (.ref (He.ga X.K n)) = true ∧
      PySem.W.subIn X.K (.ref (He.ga X.K n)) (.type "BaseException") = some true ∧ PySem.W.typeIn X.K (.ref (He.ga X.K n)) = some (.type "type"))
    (hm : X.mg n = some (.ref (He.ga X.K n))) (hg : Gl X n) (hdb : (n == ("__debug__" : Str)) = false := by decide) : VS X c (.Raise (some (.Call (.Name n p) [.Constant (.str m) j p2] [] q)) none q2) (sRaise n) :=
  vs_raise (ps_raise hc tk (pmk_own PySem.F.excBase_ValueError he.1 hm he.2.1 (raises_own he.2.2.1 he.2.2.2) hg hdb))
end
end Dv
/-! DvObj: instances by value: attributes, methods, making. -/
namespace Dv
open PySem PySem.Spec PyProof.Rows L2 Ts
abbrev Fds := List (Str × Dt)
def fget (es : Fds) (f : Str) : Option Dt := es.lookup f
def fput (f : Str) (d : Dt) : Fds → Fds
  | [] => [(f, d)]
  | (g, x) :: r => if g = f then (g, d) :: r else (g, x) :: fput f d r
section
variable {K : PySem.W.Frag} {B : Hp}
theorem fget_val {f : Str} : ∀ {fs : List (Str × V)} {es : Fds}, fs.map (·.1) = es.map (·.1) → FzA K B (fs.map (·.2)) (es.map (·.2)) → (∀ d, fget es f = some d → ∃ v, fs.lookup f = some v ∧ Fz K B v d) ∧ (fget es f = none → fs.lookup f = none)
  | [], [], _, _ => ⟨fun d e => (by cases e), fun _ => rfl⟩
  | [], _ :: _, h, _ => by cases h
  | _ :: _, [], h, _ => by cases h
  | (n, v) :: fs, (n2, x) :: es, h, h2 => by
    have e1 : n = n2 := (List.cons.inj h).1
    subst e1
    cases h2 with
    | cons z t =>
      obtain ⟨i1, i2⟩ := fget_val (f := f) (List.cons.inj h).2 t
      unfold fget
      rw [List.lookup_cons, List.lookup_cons]
      cases f == n with
      | true => exact ⟨fun d e => (by cases e; exact ⟨v, rfl, z⟩), fun e => (by cases e)⟩
      | false => exact ⟨i1, i2⟩
theorem fput_val {f : Str} {v : V} {d : Dt} (hv : Fz K B v d) : ∀ {fs : List (Str × V)} {es : Fds}, fs.map (·.1) = es.map (·.1) → FzA K B (fs.map (·.2)) (es.map (·.2)) →
    (L2.putF f v fs).map (·.1) = (fput f d es).map (·.1) ∧ FzA K B ((L2.putF f v fs).map (·.2)) ((fput f d es).map (·.2))
  | [], [], _, _ => ⟨rfl, .cons hv .nil⟩
  | [], _ :: _, h, _ => by cases h
  | _ :: _, [], h, _ => by cases h
  | (n, u) :: fs, (n2, x) :: es, h, h2 => by
    have e1 : n = n2 := (List.cons.inj h).1
    subst e1
    cases h2 with
    | cons z t =>
      obtain ⟨i1, i2⟩ := fput_val (f := f) hv (List.cons.inj h).2 t
      unfold L2.putF fput
      by_cases e : n = f
      · rw [if_pos e, if_pos e]
        exact ⟨by rw [List.map_cons, List.map_cons, (List.cons.inj h).2], .cons hv t⟩
      · rw [if_neg e, if_neg e]
        exact ⟨by rw [List.map_cons, List.map_cons, i1], .cons z i2⟩
end
section
variable {X : Cx} {c : Vc} {e a b o : Expr} {es : List Expr} {st : Stmt} {f m : Str} {n : Str} {pos p apos : Pos} {fl fo : Wt ArgV} {fv : Wt Dt} {fr : Wt (List ArgV)} {k : Nat} {g : Addr} {ps : List Str} {S : Fs} {io : List Nat} {x : Str}
/-- e.f -/
def wFld (n f : Str) (fl : Wt ArgV) : Wt Dt := fun s P E => fl s (fun h s1 => ∃ es d, valOf s1 h = some (.ins n es) ∧ fget es f = some d ∧ P d s1) E
theorem vx_fld (hc : Cls X.K (He.ga X.K n)) (hn : NoAttr X.K (He.ga X.K n) f) (ha : VL X c a fl) (hb : attributeBase a f X.env (eval a X.env) = eval a X.env := by rfl) : VX X c (.Attribute a f pos) (wFld n f fl) := by
  obtain ⟨ta, a1, a2⟩ := ha
  refine ⟨_, pe_fld a1 hb, ?_⟩
  intro F B s σ H Q P E rr hf k kx
  refine a2 F B s σ H _ _ E rr hf (fun h s1 v B1 H1 p1 r1 e1 z1 => ?_) kx
  obtain ⟨es, d, hv, hg, q⟩ := p1
  obtain ⟨ad, dx, kvs, rfl, hH, hm, hz⟩ := (rdb_at r1 z1 hv).ins r1.bh
  obtain ⟨v, q1, q2⟩ := (fget_val hm hz).1 d hg
  exact ⟨ad, _, dx, kvs, v, rfl, hH, hc, hn, q1, k d s1 v B1 H1 q r1 e1 q2⟩
/-- e.f = value -/
def sFldW (n f : Str) (fo : Wt ArgV) (fv : Wt Dt) : Ws := fun s V => fv s (fun d s1 => fo s1 (fun h s2 => (plc h).isSome = true ∧ ∃ es, valOf s2 h = some (.ins n es) ∧ es.length < 1000 ∧ V.nx (putA s2 h (.ins n (fput f d es)))) V.er) V.er
theorem vs_fld (hc : Cls X.K (He.ga X.K n)) (hn : NoAttr X.K (He.ga X.K n) f) (ho : VL X c o fo) (hv : VX X c e fv) (h : ∀ {ta tv : TE}, PE X o ta → PE X e tv → PS X st (sFld X.K ta tv f)) : VS X c st (sFldW n f fo fv) := by
  obtain ⟨to, o1, o2⟩ := ho
  obtain ⟨tv, v1, v2⟩ := hv
  refine ⟨_, h o1 v1, ?_⟩
  intro F B s σ H D V r hf kk
  refine v2 F B s σ H _ _ _ r hf (fun d s1 y B1 H1 p1 r1 e1 z1 => ?_) (kk.er σ)
  refine o2 F B1 s1 σ H1 _ _ _ r1 p1 (fun h s2 u B2 H2 p2 r2 e2 z2 => ?_) (kk.er σ)
  obtain ⟨hp, es, hval, hl, q⟩ := p2
  obtain ⟨ad, rfl, y2, chg⟩ := r2.chgA z2 hval hp
  cases y2 with
  | ins hH hm hz =>
    rename_i dx kvs
    obtain ⟨w1, w2⟩ := fput_val (f := f) (z1.ex e2) hm hz
    have hll : kvs.length = es.length := by
      have := congrArg List.length hm
      rw [List.length_map, List.length_map] at this
      exact this
    exact ⟨ad, _, dx, kvs, rfl, hH, hc, hn, by omega, kk.nx _ _ _ _ q (chg _ _ (fun b nb => upd_ne nb) (.ins upd_same w1 w2)) (Evl.Ex.trans e1 e2)⟩
/-- e.f += value, ints -/
def sFldAugW (n f : Str) (fo : Wt ArgV) (fv : Wt Dt) : Ws := fun s V => fo s (fun h s1 => (plc h).isSome = true ∧ ∃ es i, valOf s1 h = some (.ins n es) ∧ fget es f = some (.int i) ∧
  fv s1 (fun d s2 => ∃ es' j, d = .int j ∧ valOf s2 h = some (.ins n es') ∧ es'.length < 1000 ∧ V.nx (putA s2 h (.ins n (fput f (.int (i + j)) es')))) V.er) V.er
theorem vs_fldaug (hc : Cls X.K (He.ga X.K n)) (hn : NoAttr X.K (He.ga X.K n) f) (ho : VL X c o fo) (hv : VX X c e fv) (h : ∀ {ta tv : TE}, PE X o ta → PE X e tv → PS X st (sFldAug X.K ta tv L2.rAdd f)) : VS X c st (sFldAugW n f fo fv) := by
  obtain ⟨to, o1, o2⟩ := ho
  obtain ⟨tv, v1, v2⟩ := hv
  refine ⟨_, h o1 v1, ?_⟩
  intro F B s σ H D V r hf kk
  refine o2 F B s σ H _ _ _ r hf (fun h s1 u B1 H1 p1 r1 e1 z1 => ?_) (kk.er σ)
  obtain ⟨hp, es, i, hval, hg, hf⟩ := p1
  obtain ⟨ad, rfl, y1, _⟩ := r1.chgA z1 hval hp
  cases y1 with
  | ins hH hm hz =>
    rename_i dx kvs
    obtain ⟨w, q1, q2⟩ := (fget_val hm hz).1 _ hg
    cases q2
    refine ⟨ad, _, dx, kvs, _, rfl, hH, hc, hn, q1, ?_⟩
    refine v2 F B1 s1 σ H1 _ _ _ r1 hf (fun d s2 y B2 H2 p2 r2 e2 z2 => ?_) (kk.er σ)
    obtain ⟨es', j, rfl, hval', hl, q⟩ := p2
    cases z2
    obtain ⟨ad', ea, y2, chg⟩ := r2.chgA (z1.ex e2) hval' hp
    cases ea
    cases y2 with
    | ins hH' hm' hz' =>
      rename_i dx' kvs'
      obtain ⟨w1, w2⟩ := fput_val (f := f) (Fz.int (i + j)) hm' hz'
      have hll : kvs'.length = es'.length := by
        have := congrArg List.length hm'
        rw [List.length_map, List.length_map] at this
        exact this
      exact ⟨i, j, rfl, rfl, dx', kvs', hH', by omega, kk.nx _ _ _ _ q (chg _ _ (fun b nb => upd_ne nb) (.ins upd_same w1 w2)) (Evl.Ex.trans e1 e2)⟩
/-- o.m(e, ..) -/
def wMeth (n m : Str) (N : Nat) (io : List Nat) (S : Fs) (fo : Wt ArgV) (fr : Wt (List ArgV)) : Wt Dt := fun s P E => fo s (fun h s0 => ∃ es, valOf s0 h = some (.ins n es) ∧ fget es m = none ∧ fr s0 (fun as s1 => wCore N io S (h :: as) s1 P E) E) E
theorem d_meth {N : Nat} {to : TE} {ta : TA} {E : L2.St → XK} (hE : ∀ σ cls d H, c.W cls d σ H → E σ cls d H) (ho : DL X.K c to fo) (ha : DR X.K c ta fr) : DX X.K c (tMethS (He.ga X.K n) m (spV X.K c.T N io S) E to ta) (wMeth n m N io S fo fr) := by
  intro F B s σ H Q P Er rr hf k kx
  refine ho F B s σ H _ _ Er rr hf (fun h s0 v B0 H0 p0 r0 e0 z0 => ?_) kx
  obtain ⟨es, hv, hg, hf⟩ := p0
  obtain ⟨ad, dx, kvs, rfl, hH, hm, hz⟩ := (rdb_at r0 z0 hv).ins r0.bh
  refine ⟨ad, dx, kvs, rfl, hH, (fget_val hm hz).2 hg, ?_⟩
  refine ha F B0 s0 σ H0 _ _ Er r0 hf (fun as s1 vs B1 H1 p1 r1 e1 z1 => ?_) kx
  exact d_core (hE σ) r1 (.cons (z0.ex e1) z1) p1 (fun d s' v B' H' q r' e z => k d s' v B' H' q r' (Evl.Ex.trans e0 (Evl.Ex.trans e1 e)) z) kx
theorem vx_meth {N : Nat} (G : GFn X.prog X.w X.K X.mg X.base k g ps (spV X.K c.T N io S)) (hr : GRoom k X.A) (hc : Cls X.K (He.ga X.K n)) (hm : Meth X.K (He.ga X.K n) m g) (hx : ∀ σ, PassesAt (L2.CX X.prog X.w) X σ (WE c.W σ)) (ho : VL X c o fo) (ha : VR X c (e :: es) fr)
    (h : ∀ {to : TE} {ta : TA}, PE X o to → PA X (e :: es) ta → PE X (.Call (.Attribute o m apos) (e :: es) [] pos) (tMethS (He.ga X.K n) m (spV X.K c.T N io S) (WE c.W) to ta)) : VX X c (.Call (.Attribute o m apos) (e :: es) [] pos) (wMeth n m N io S fo fr) := by
  obtain ⟨to, o1, o2⟩ := ho
  obtain ⟨ta, a1, a2⟩ := ha
  exact ⟨_, h o1 a1, d_meth (fun _ _ _ _ h => h) o2 a2⟩
theorem vx_meth0 {N : Nat} (ho : VL X c o fo) (h : ∀ {to : TE}, PE X o to → PE X (.Call (.Attribute o m apos) [] [] pos) (tMethS (He.ga X.K n) m (spV X.K c.T N io S) (WE c.W) to tNil)) : VX X c (.Call (.Attribute o m apos) [] [] pos) (wMeth n m N io S fo wNilR) := by
  obtain ⟨to, o1, o2⟩ := ho
  exact ⟨_, h o1, d_meth (fun _ _ _ _ h => h) o2 fun F B s σ H Q P E r hf k _ => k [] s [] B H hf r (Evl.Ex.refl _) .nil⟩
/-- C(e, ..): the new instance is made known by its making -/
def wMake (n : Str) (N : Nat) (io : List Nat) (S : Fs) (fr : Wt (List ArgV)) : Wt Dt := fun s P E => fr s (fun as s1 => ∀ x, s1.cs x = none → wCore N io S (.cell x :: as) (s1.cell x (some (.ins n [])))
  (fun d s2 => d = .none ∧ ∃ o, s2.cs x = some o ∧ P o (s2.cell x none)) E) E
theorem d_make {N : Nat} {ta : TA} {E : L2.St → XK} (hE : ∀ σ cls d H, c.W cls d σ H → E σ cls d H) (ha : DR X.K c ta fr) : DN X.K c (tMakeS (He.ga X.K n) (spV X.K c.T N io S) E ta) (wMake n N io S fr) := by
  intro F B s σ H Q P Er rr hf k kx
  refine ha F B s σ H _ _ Er rr hf (fun as s1 vs B1 H1 p1 r1 e1 z1 => ?_) kx
  intro x dx hx hdx ne
  have r2 : SR X.K c F B1 s1 σ (upd H1 dx (.own x)) [] := r1.step (Evl.Ex.refl _) (Evl.Ex.trans r1.bh (ex_new hdx)) (fun _ _ => rfl) (ex_new hdx)
  have hx2 : upd H1 dx (.own x) x = none := by rw [upd_ne (Ne.symm ne)]; exact hx
  have r3 := (r2.temp (o := .ins (He.ga X.K n) dx []) hx2 rfl).toCell (d := .ins n []) (.ins (kvs := []) (es := []) upd_same rfl .nil)
  have r4 : AgR X.K c B1 σ (.ref x :: vs) (.cell x :: as) := .cons rfl z1
  refine d_core (hE σ) r3 r4 (p1 x (r1.noCs hx)) (fun d s2 v B' H' q r' e z => ?_) kx
  obtain ⟨rfl, o, ho, q⟩ := q
  cases z
  obtain ⟨y, r5⟩ := r'.outCell ho
  exact ⟨rfl, k o _ x B' H' q r5 (Evl.Ex.trans e1 e) y⟩
theorem vn_make {N : Nat} (ha : VR X c (e :: es) fr) (h : ∀ {ta : TA}, PA X (e :: es) ta → PE X (.Call (.Name x p) (e :: es) [] pos) (tMakeS (He.ga X.K n) (spV X.K c.T N io S) (WE c.W) ta)) : VN X c (.Call (.Name x p) (e :: es) [] pos) (wMake n N io S fr) := by
  obtain ⟨ta, a1, a2⟩ := ha
  exact ⟨_, h a1, d_make (fun _ _ _ _ h => h) a2⟩
theorem vn_make0 {N : Nat} (h : PE X (.Call (.Name x p) [] [] pos) (tMakeS (He.ga X.K n) (spV X.K c.T N io S) (WE c.W) tNil)) : VN X c (.Call (.Name x p) [] [] pos) (wMake n N io S wNilR) :=
  ⟨_, h, d_make (fun _ _ _ _ h => h) fun F B s σ H Q P E r hf k _ => k [] s [] B H hf r (Evl.Ex.refl _) .nil⟩
end
end Dv
/-! DvRd: how a body's meaning is read: what comes behind is named, so that it is looked into only when it is reached. -/
namespace Dv
open PySem PySem.Spec PyProof.Rows L2 Ts
theorem hu65_of {k : Nat} {A : Around} (h : Room k A) : A.units + 65 < cLine := by
  have := h.un
  omega
def bO {α : Type} (o : Option α) (f : α → Prop) : Prop := ∃ a, o = some a ∧ f a
theorem bO_some {α : Type} {a : α} {f : α → Prop} : bO (some a) f = f a := by
  apply propext
  constructor
  · rintro ⟨d, e, h⟩
    cases e
    exact h
  · intro h
    exact ⟨a, rfl, h⟩
theorem bO_none {α : Type} {f : α → Prop} : bO none f = False := by
  apply propext
  constructor
  · rintro ⟨d, e, h⟩
    cases e
  · intro h
    exact h.elim
theorem r_bO {α : Type} {o : Option α} {f : α → Prop} (a : α) (e : o = some a) (h : f a) : bO o f := ⟨a, e, h⟩
theorem ite_dec {p : Prop} [Decidable p] {A B : Prop} : (if decide p = true then A else B) = (if p then A else B) := by
  by_cases h : p
  · rw [if_pos h, decide_eq_true h, if_pos rfl]
  · rw [if_neg h, decide_eq_false h, if_neg Bool.false_ne_true]
def gS (s : Sl) (i : Nat) : Option Dt := valOf s (.slot i)
theorem gS_0 {d : Dt} {l : List (Option Dt)} {cs : Cells} : gS ⟨some d :: l, cs⟩ 0 = some d := rfl
theorem gS_n {l : List (Option Dt)} {cs : Cells} : gS ⟨none :: l, cs⟩ 0 = none := rfl
theorem gS_s {x : Option Dt} {l : List (Option Dt)} {cs : Cells} {i : Nat} : gS ⟨x :: l, cs⟩ (i + 1) = gS ⟨l, cs⟩ i := rfl
theorem v_slot {s : Sl} {i : Nat} : valOf s (.slot i) = gS s i := rfl
theorem v_val {s : Sl} {d : Dt} : valOf s (.val d) = some d := rfl
theorem v_cell {s : Sl} {a : Addr} : valOf s (.cell a) = s.cs a := rfl
theorem set_mk {l : List (Option Dt)} {cs : Cells} {i : Nat} {x : Option Dt} : Sl.set ⟨l, cs⟩ i x = ⟨l.set i x, cs⟩ := rfl
theorem cell_mk {l : List (Option Dt)} {cs : Cells} {a : Addr} {x : Option Dt} : Sl.cell ⟨l, cs⟩ a x = ⟨l, cput cs a x⟩ := rfl
theorem pa_slot {s : Sl} {i : Nat} {d : Dt} : putA s (.slot i) d = s.set i (some d) := rfl
theorem pa_cell {s : Sl} {a : Addr} {d : Dt} : putA s (.cell a) d = s.cell a (some d) := rfl
theorem gS_iff {s : Sl} {i : Nat} {d : Dt} : gS s i = some d ↔ s.l[i]? = some (some d) := by
  constructor
  · exact valOf_slot
  · intro h
    show (match s.l[i]? with | some (some d) => some d | _ => none) = some d
    rw [h]
theorem bO_gS {s : Sl} {i : Nat} {f : Dt → Prop} : bO (gS s i) f = ∃ d, s.l[i]? = some (some d) ∧ f d := by
  apply propext
  constructor
  · rintro ⟨d, e, h⟩
    exact ⟨d, gS_iff.mp e, h⟩
  · rintro ⟨d, e, h⟩
    exact ⟨d, gS_iff.mpr e, h⟩
def refOf : Dt → Option Addr
  | .ref a => some a
  | _ => none
def boOf : Dt → Option Bool
  | .bool b => some b
  | _ => none
def intOf : Dt → Option Int
  | .int i => some i
  | _ => none
def tupOf : Dt → Option (List Dt)
  | .tuple ds => some ds
  | _ => none
def lstOf : Dt → Option (List Dt)
  | .list ds => some ds
  | _ => none
def dicOf : Option Dt → Option Kvs
  | some (.dic es) => some es
  | _ => none
def insOf (n : Str) : Option Dt → Option Fds
  | some (.ins m es) => if m = n then some es else none
  | _ => none
theorem refOf_eq {d : Dt} {f : Addr → Prop} : bO (refOf d) f = ∃ a, d = .ref a ∧ f a := by
  apply propext
  constructor
  · rintro ⟨a, e, h⟩
    cases d <;> first | cases e | skip
    exact ⟨_, rfl, h⟩
  · rintro ⟨a, rfl, h⟩
    exact ⟨a, rfl, h⟩
theorem boOf_eq {d : Dt} {f : Bool → Prop} : bO (boOf d) f = ∃ a, d = .bool a ∧ f a := by
  apply propext
  constructor
  · rintro ⟨a, e, h⟩
    cases d <;> first | cases e | skip
    exact ⟨_, rfl, h⟩
  · rintro ⟨a, rfl, h⟩
    exact ⟨a, rfl, h⟩
theorem intOf_eq {d : Dt} {f : Int → Prop} : bO (intOf d) f = ∃ a, d = .int a ∧ f a := by
  apply propext
  constructor
  · rintro ⟨a, e, h⟩
    cases d <;> first | cases e | skip
    exact ⟨_, rfl, h⟩
  · rintro ⟨a, rfl, h⟩
    exact ⟨a, rfl, h⟩
theorem tupOf_eq {d : Dt} {f : List Dt → Prop} : bO (tupOf d) f = ∃ a, d = .tuple a ∧ f a := by
  apply propext
  constructor
  · rintro ⟨a, e, h⟩
    cases d <;> first | cases e | skip
    exact ⟨_, rfl, h⟩
  · rintro ⟨a, rfl, h⟩
    exact ⟨a, rfl, h⟩
theorem lstOf_eq {d : Dt} {f : List Dt → Prop} : bO (lstOf d) f = ∃ a, d = .list a ∧ f a := by
  apply propext
  constructor
  · rintro ⟨a, e, h⟩
    cases d <;> first | cases e | skip
    exact ⟨_, rfl, h⟩
  · rintro ⟨a, rfl, h⟩
    exact ⟨a, rfl, h⟩
theorem dicOf_eq {o : Option Dt} {f : Kvs → Prop} : bO (dicOf o) f = ∃ a, o = some (.dic a) ∧ f a := by
  apply propext
  constructor
  · rintro ⟨a, e, h⟩
    unfold dicOf at e
    split at e
    · cases e
      exact ⟨_, rfl, h⟩
    · cases e
  · rintro ⟨a, rfl, h⟩
    exact ⟨a, rfl, h⟩
theorem insOf_eq {n : Str} {o : Option Dt} {f : Fds → Prop} : bO (insOf n o) f = ∃ a, o = some (.ins n a) ∧ f a := by
  apply propext
  constructor
  · rintro ⟨a, e, h⟩
    unfold insOf at e
    split at e
    · split at e
      · rename_i q
        cases e
        subst q
        exact ⟨_, rfl, h⟩
      · cases e
    · cases e
  · rintro ⟨a, rfl, h⟩
    exact ⟨a, if_pos rfl, h⟩
theorem dicOf_d {es : Kvs} : dicOf (some (.dic es)) = some es := rfl
theorem insOf_same {n : Str} {es : Fds} : insOf n (some (.ins n es)) = some es := if_pos rfl
abbrev PD := Dt → Sl → Prop
abbrev PEr := Str → Sl → Prop
section
variable {s s1 s2 s3 : Sl} {P : PD} {PB : Bool → Sl → Prop} {PL : List Dt → Sl → Prop} {PH : ArgV → Sl → Prop} {PR : List ArgV → Sl → Prop} {PO : Option Int → Sl → Prop} {PP : Prs → Sl → Prop} {E : PEr} {V : VEnds} {d x y z kd v w : Dt} {ds xs : List Dt} {as : List ArgV} {h : ArgV} {b : Bool} {i j n m : Nat} {l hi : Option Int} {ps : Prs}
variable {f fa fb fc fe fk fv : Wt Dt} {ft fu : Wt Bool} {fl fi : Wt (List Dt)} {fh fo : Wt ArgV} {fr : Wt (List ArgV)} {f1 f2 : Wt (Option Int)} {g g' : Dt → Dt → Option Dt} {g1 : Dt → Option Dt} {g2 : List Dt → Option Dt} {g3 : Dt → Option (List Dt)} {fS gS' : Ws} {gt : Dt → Sl → (Sl → Prop) → Prop} {io : List Nat} {S : Fs} {T : String} {gm : Dt → List Dt → Option (Dt × Dt)} {nm fn' : Str}
def fl1 {α : Type} (P : α → Sl → Prop) (s : Sl) (d : α) : Prop := P d s
theorem e_fl {α : Type} {P : α → Sl → Prop} {d : α} : fl1 P s d = P d s := rfl
def kK (p : Prop) (_ : Dt) : Prop := p
theorem e_kK {p : Prop} : kK p d = p := rfl

theorem e_var : (wVar i s P E) = (bO (gS s i) (fl1 P s)) := by rw [bO_gS]; rfl
theorem e_c : (wC d s P E) = (P d s) := rfl
def kCell (P : PD) (d : Dt) (s1 : Sl) : Prop := ∀ a, s1.cs a = none → P (.ref a) (s1.cell a (some d))
theorem e_cell : (wCell f s P E) = (f s (kCell P) E) := rfl
theorem e_kCell : (kCell P d s1) = (∀ a, s1.cs a = none → P (.ref a) (s1.cell a (some d))) := rfl
def kL (P : ArgV → Sl → Prop) (d : Dt) (s1 : Sl) : Prop := P (.val d) s1
theorem e_L : (wL f s PH E) = (f s (kL PH) E) := rfl
theorem e_kL : (kL PH d s1) = (PH (.val d) s1) := rfl
theorem e_Ls : (wLs i s PH E) = (bO (gS s i) (kK (PH (.slot i) s))) := by rw [bO_gS]; rfl
def kLc2 (P : ArgV → Sl → Prop) (s1 : Sl) (a : Addr) : Prop := P (.cell a) s1
def kLc1 (P : ArgV → Sl → Prop) (d : Dt) (s1 : Sl) : Prop := ∃ a, d = .ref a ∧ P (.cell a) s1
theorem e_Lc : (wLc' f s PH E) = (f s (kLc1 PH) E) := rfl
theorem e_kLc1 : (kLc1 PH d s1) = (bO (refOf d) (kLc2 PH s1)) := by rw [refOf_eq]; rfl
theorem e_kLc2 {a : Addr} : kLc2 PH s1 a = PH (.cell a) s1 := rfl
def kRd (P : PD) (h : ArgV) (s1 : Sl) : Prop := ∃ d, valOf s1 h = some d ∧ P d s1
theorem e_Rd : (wRd fh s P E) = (fh s (kRd P) E) := rfl
theorem e_kRd : (kRd P h s1) = (bO (valOf s1 h) (fl1 P s1)) := rfl
def kOp2 (g : Dt → Dt → Option Dt) (x : Dt) (P : PD) (y : Dt) (s2 : Sl) : Prop := ∃ d, g x y = some d ∧ P d s2
def kOp1 (g : Dt → Dt → Option Dt) (fb : Wt Dt) (P : PD) (E : PEr) (x : Dt) (s1 : Sl) : Prop := fb s1 (kOp2 g x P) E
theorem e_Op : (wOp g fa fb s P E) = (fa s (kOp1 g fb P E) E) := rfl
theorem e_kOp1 : (kOp1 g fb P E x s1) = (fb s1 (kOp2 g x P) E) := rfl
theorem e_kOp2 : (kOp2 g x P y s2) = (bO (g x y) (fl1 P s2)) := rfl
def kOpL3 (g : Dt → Dt → Option Dt) (y : Dt) (P : PD) (s2 : Sl) (x : Dt) : Prop := ∃ d, g x y = some d ∧ P d s2
def kOpL2 (g : Dt → Dt → Option Dt) (h : ArgV) (P : PD) (y : Dt) (s2 : Sl) : Prop := ∃ x, valOf s2 h = some x ∧ kOpL3 g y P s2 x
def kOpL1 (g : Dt → Dt → Option Dt) (fb : Wt Dt) (P : PD) (E : PEr) (h : ArgV) (s1 : Sl) : Prop := fb s1 (kOpL2 g h P) E
theorem e_OpL : (wOpL g fh fb s P E) = (fh s (kOpL1 g fb P E) E) := rfl
theorem e_kOpL1 : (kOpL1 g fb P E h s1) = (fb s1 (kOpL2 g h P) E) := rfl
theorem e_kOpL2 : (kOpL2 g h P y s2) = (bO (valOf s2 h) (kOpL3 g y P s2)) := rfl
theorem e_kOpL3 : (kOpL3 g y P s2 x) = (bO (g x y) (fl1 P s2)) := rfl
def kTst2 (P : Bool → Sl → Prop) (s1 : Sl) (b : Bool) : Prop := P b s1
def kTst (P : Bool → Sl → Prop) (d : Dt) (s1 : Sl) : Prop := ∃ b, d = .bool b ∧ P b s1
theorem e_Tst : (wTst f s PB E) = (f s (kTst PB) E) := rfl
theorem e_kTst : (kTst PB d s1) = (bO (boOf d) (kTst2 PB s1)) := by rw [boOf_eq]; rfl
theorem e_kTst2 : (kTst2 PB s1 b) = (PB b s1) := rfl
def kUn (g : Dt → Option Dt) (P : PD) (x : Dt) (s1 : Sl) : Prop := ∃ d, g x = some d ∧ P d s1
theorem e_Un : (wUn g1 fa s P E) = (fa s (kUn g1 P) E) := rfl
theorem e_kUn : (kUn g1 P x s1) = (bO (g1 x) (fl1 P s1)) := rfl
def kCh5 (g' : Dt → Dt → Option Dt) (y : Dt) (P : PD) (z : Dt) (s3 : Sl) : Prop := ∃ d, g' y z = some d ∧ P d s3
def kCh4 (g' : Dt → Dt → Option Dt) (fc : Wt Dt) (y : Dt) (P : PD) (E : PEr) (s2 : Sl) (k : Bool) : Prop := if k = true then fc s2 (kCh5 g' y P) E else P (.bool false) s2
def kCh3 (g' : Dt → Dt → Option Dt) (fc : Wt Dt) (y : Dt) (P : PD) (E : PEr) (s2 : Sl) (kd : Dt) : Prop := bO (boOf kd) (kCh4 g' fc y P E s2)
def kCh2 (g g' : Dt → Dt → Option Dt) (fc : Wt Dt) (x : Dt) (P : PD) (E : PEr) (y : Dt) (s2 : Sl) : Prop := ∃ k, g x y = some (.bool k) ∧ kCh4 g' fc y P E s2 k
def kCh1 (g g' : Dt → Dt → Option Dt) (fb fc : Wt Dt) (P : PD) (E : PEr) (x : Dt) (s1 : Sl) : Prop := fb s1 (kCh2 g g' fc x P E) E
theorem e_Ch : (wChain g g' fa fb fc s P E) = (fa s (kCh1 g g' fb fc P E) E) := rfl
theorem e_kCh1 : (kCh1 g g' fb fc P E x s1) = (fb s1 (kCh2 g g' fc x P E) E) := rfl
theorem e_kCh2 : (kCh2 g g' fc x P E y s2) = (bO (g x y) (kCh3 g' fc y P E s2)) := by
  apply propext
  constructor
  · rintro ⟨k, e, h⟩
    exact ⟨_, e, k, rfl, h⟩
  · rintro ⟨kd, e, k, e2, h⟩
    cases kd <;> first | cases e2 | skip
    exact ⟨_, e, h⟩
theorem e_kCh3 : (kCh3 g' fc y P E s2 kd) = (bO (boOf kd) (kCh4 g' fc y P E s2)) := rfl
theorem e_kCh4 : (kCh4 g' fc y P E s2 b) = (if b = true then fc s2 (kCh5 g' y P) E else P (.bool false) s2) := rfl
theorem e_kCh5 : (kCh5 g' y P z s3) = (bO (g' y z) (fl1 P s3)) := rfl
def kAnd (fu : Wt Bool) (PB : Bool → Sl → Prop) (E : PEr) (b : Bool) (s1 : Sl) : Prop := if b = true then fu s1 PB E else PB false s1
theorem e_And : (wAnd ft fu s PB E) = (ft s (kAnd fu PB E) E) := rfl
theorem e_kAnd : (kAnd fu PB E b s1) = (if b = true then fu s1 PB E else PB false s1) := rfl
def kOr (fu : Wt Bool) (PB : Bool → Sl → Prop) (E : PEr) (b : Bool) (s1 : Sl) : Prop := if b = true then PB true s1 else fu s1 PB E
theorem e_Or : (wOr ft fu s PB E) = (ft s (kOr fu PB E) E) := rfl
theorem e_kOr : (kOr fu PB E b s1) = (if b = true then PB true s1 else fu s1 PB E) := rfl
def kNot (PB : Bool → Sl → Prop) (b : Bool) (s1 : Sl) : Prop := PB (!b) s1
theorem e_Not : (wNot ft s PB E) = (ft s (kNot PB) E) := rfl
theorem e_kNot : (kNot PB b s1) = (PB (!b) s1) := rfl
def kAndV2 (fb : Wt Dt) (P : PD) (E : PEr) (s1 : Sl) (b : Bool) : Prop := if b = true then fb s1 P E else P (.bool false) s1
def kAndV (fb : Wt Dt) (P : PD) (E : PEr) (d : Dt) (s1 : Sl) : Prop := ∃ b, d = .bool b ∧ kAndV2 fb P E s1 b
theorem e_AndV : (wAndV fa fb s P E) = (fa s (kAndV fb P E) E) := rfl
theorem e_kAndV : (kAndV fb P E d s1) = (bO (boOf d) (kAndV2 fb P E s1)) := by rw [boOf_eq]; rfl
theorem e_kAndV2 : (kAndV2 fb P E s1 b) = (if b = true then fb s1 P E else P (.bool false) s1) := rfl
def kOrV2 (fb : Wt Dt) (P : PD) (E : PEr) (s1 : Sl) (b : Bool) : Prop := if b = true then P (.bool true) s1 else fb s1 P E
def kOrV (fb : Wt Dt) (P : PD) (E : PEr) (d : Dt) (s1 : Sl) : Prop := ∃ b, d = .bool b ∧ kOrV2 fb P E s1 b
theorem e_OrV : (wOrV fa fb s P E) = (fa s (kOrV fb P E) E) := rfl
theorem e_kOrV : (kOrV fb P E d s1) = (bO (boOf d) (kOrV2 fb P E s1)) := by rw [boOf_eq]; rfl
theorem e_kOrV2 : (kOrV2 fb P E s1 b) = (if b = true then P (.bool true) s1 else fb s1 P E) := rfl
def kNotV2 (P : PD) (s1 : Sl) (b : Bool) : Prop := P (.bool (!b)) s1
def kNotV (P : PD) (d : Dt) (s1 : Sl) : Prop := ∃ b, d = .bool b ∧ P (.bool (!b)) s1
theorem e_NotV : (wNotV fa s P E) = (fa s (kNotV P) E) := rfl
theorem e_kNotV : (kNotV P d s1) = (bO (boOf d) (kNotV2 P s1)) := by rw [boOf_eq]; rfl
theorem e_kNotV2 : (kNotV2 P s1 b) = (P (.bool (!b)) s1) := rfl
def kIfV (fa fb : Wt Dt) (P : PD) (E : PEr) (b : Bool) (s1 : Sl) : Prop := if b = true then fa s1 P E else fb s1 P E
theorem e_IfV : (wIf ft fa fb s P E) = (ft s (kIfV fa fb P E) E) := rfl
theorem e_kIfV : (kIfV fa fb P E b s1) = (if b = true then fa s1 P E else fb s1 P E) := rfl
theorem e_nil : (wNil s PL E) = (PL [] s) := rfl
def kCons2 (d : Dt) (PL : List Dt → Sl → Prop) (ds : List Dt) (s2 : Sl) : Prop := PL (d :: ds) s2
def kCons1 (fl : Wt (List Dt)) (PL : List Dt → Sl → Prop) (E : PEr) (d : Dt) (s1 : Sl) : Prop := fl s1 (kCons2 d PL) E
theorem e_Cons : (wCons f fl s PL E) = (f s (kCons1 fl PL E) E) := rfl
theorem e_kCons1 : (kCons1 fl PL E d s1) = (fl s1 (kCons2 d PL) E) := rfl
theorem e_kCons2 : (kCons2 d PL ds s2) = (PL (d :: ds) s2) := rfl
def kTup (P : PD) (ds : List Dt) (s1 : Sl) : Prop := ds.length ≤ 1000000 ∧ P (.tuple ds) s1
theorem e_Tup : (wTup fl s P E) = (fl s (kTup P) E) := rfl
theorem e_kTup : (kTup P ds s1) = (ds.length ≤ 1000000 ∧ P (.tuple ds) s1) := rfl
def kLst (P : PD) (ds : List Dt) (s1 : Sl) : Prop := ds.length ≤ 1000000 ∧ P (.list ds) s1
theorem e_Lst : (wLst fl s P E) = (fl s (kLst P) E) := rfl
theorem e_kLst : (kLst P ds s1) = (ds.length ≤ 1000000 ∧ P (.list ds) s1) := rfl
def kCa (g : List Dt → Option Dt) (P : PD) (ds : List Dt) (s1 : Sl) : Prop := ∃ d, g ds = some d ∧ P d s1
theorem e_Ca : (wCa g2 fl s P E) = (fl s (kCa g2 P) E) := rfl
theorem e_kCa : (kCa g2 P ds s1) = (bO (g2 ds) (fl1 P s1)) := rfl
def kNewL2 (P : PD) (s1 : Sl) (ds : List Dt) : Prop := P (.list ds) s1
def kNewL (g : Dt → Option (List Dt)) (P : PD) (x : Dt) (s1 : Sl) : Prop := ∃ ds, g x = some ds ∧ P (.list ds) s1
theorem e_NewL : (wNewL g3 fa s P E) = (fa s (kNewL g3 P) E) := rfl
theorem e_kNewL : (kNewL g3 P x s1) = (bO (g3 x) (kNewL2 P s1)) := rfl
theorem e_kNewL2 : (kNewL2 P s1 ds) = (P (.list ds) s1) := rfl
def kSeq (g : Ws) (V : VEnds) : VEnds := { V with nx := fun s' => g s' V }
theorem e_Seq : (sSeq fS gS' s V) = (fS s (kSeq gS' V)) := rfl
theorem e_kSeqn : ((kSeq gS' V).nx s) = (gS' s V) := rfl
theorem e_kSeqrt : ((kSeq gS' V).rt) = (V.rt) := rfl
theorem e_kSeqbk : ((kSeq gS' V).bk) = (V.bk) := rfl
theorem e_kSeqct : ((kSeq gS' V).ct) = (V.ct) := rfl
theorem e_kSeqer : ((kSeq gS' V).er) = (V.er) := rfl
theorem e_Next : (sNext s V) = (V.nx s) := rfl
theorem e_Brk : (sBreak s V) = (V.bk s) := rfl
theorem e_Cnt : (sCont s V) = (V.ct s) := rfl
def kDrop (V : VEnds) (d : Dt) (s1 : Sl) : Prop := V.nx s1
theorem e_Drop : (sDrop fe s V) = (fe s (kDrop V) V.er) := rfl
theorem e_kDrop : (kDrop V d s1) = (V.nx s1) := rfl
theorem e_Ret : (sRet fe s V) = (fe s V.rt V.er) := rfl
theorem e_RetN : (sRetN s V) = (V.rt .none s) := rfl
def kRetO (i : Nat) (s : Sl) (V : VEnds) (d : Dt) : Prop := V.rt d (s.set i none)
theorem e_RetO : (sRetO i s V) = (bO (gS s i) (kRetO i s V)) := by rw [bO_gS]; rfl
theorem e_kRetO : (kRetO i s V d) = (V.rt d (s.set i none)) := rfl
def kRetC (i : Nat) (s : Sl) (V : VEnds) (d : Dt) : Prop := ∀ a, s.cs a = none → V.rt (.ref a) ((s.set i none).cell a (some d))
theorem e_RetC : (sRetC i s V) = (bO (gS s i) (kRetC i s V)) := by rw [bO_gS]; rfl
theorem e_kRetC : (kRetC i s V d) = (∀ a, s.cs a = none → V.rt (.ref a) ((s.set i none).cell a (some d))) := rfl
def kIfS (f g : Ws) (V : VEnds) (b : Bool) (s1 : Sl) : Prop := if b = true then f s1 V else g s1 V
theorem e_IfS : (sIf ft fS gS' s V) = (ft s (kIfS fS gS' V) V.er) := rfl
theorem e_kIfS : (kIfS fS gS' V b s1) = (if b = true then fS s1 V else gS' s1 V) := rfl
theorem e_gNm {P : Sl → Prop} : gNm i d s P = P (s.set i (some d)) := rfl
theorem e_gNms0 {P : Sl → Prop} : gNms [] [] s P = P s := by unfold gNms; simp
theorem e_gNms1 {is : List Nat} {P : Sl → Prop} : gNms (i :: is) (d :: ds) s P = gNms is ds (s.set i (some d)) P := by
  apply propext
  constructor
  · rintro ⟨d', es, e, h⟩
    cases e
    exact h
  · intro h
    exact ⟨d, ds, rfl, h⟩
def kTpN (is : List Nat) (s : Sl) (P : Sl → Prop) (ds : List Dt) : Prop := gNms is ds s P
theorem e_gTpN {is : List Nat} {P : Sl → Prop} : gTpN is d s P = bO (tupOf d) (kTpN is s P) := by rw [tupOf_eq]; rfl
theorem e_gTpL {is : List Nat} {P : Sl → Prop} : gTpL is d s P = bO (lstOf d) (kTpN is s P) := by rw [lstOf_eq]; rfl
theorem e_kTpN {is : List Nat} {P : Sl → Prop} : kTpN is s P ds = gNms is ds s P := rfl
def kAsg (gt : Dt → Sl → (Sl → Prop) → Prop) (V : VEnds) (d : Dt) (s1 : Sl) : Prop := gt d s1 V.nx
theorem e_Asg : (sAsg fe gt s V) = (fe s (kAsg gt V) V.er) := rfl
theorem e_kAsg : (kAsg gt V d s1) = (gt d s1 V.nx) := rfl
def kSet (i : Nat) (V : VEnds) (d : Dt) (s1 : Sl) : Prop := V.nx (s1.set i (some d))
theorem e_Set : (sSet i fe s V) = (fe s (kSet i V) V.er) := rfl
theorem e_kSet : (kSet i V d s1) = (V.nx (s1.set i (some d))) := rfl
def kTake3 (i : Nat) (V : VEnds) (s1 : Sl) (a : Addr) (x : Dt) : Prop := V.nx ((s1.set i (some x)).cell a none)
def kTake2 (i : Nat) (V : VEnds) (s1 : Sl) (a : Addr) : Prop := ∃ x, s1.cs a = some x ∧ kTake3 i V s1 a x
def kTake (i : Nat) (V : VEnds) (d : Dt) (s1 : Sl) : Prop := bO (refOf d) (kTake2 i V s1)
theorem e_Take : (sTake i fe s V) = (fe s (kTake i V) V.er) := by
  have : (fun (d : Dt) (s' : Sl) => ∃ a x, d = .ref a ∧ s'.cs a = some x ∧ V.nx ((s'.set i (some x)).cell a none)) = kTake i V := by
    funext d s1
    unfold kTake
    rw [refOf_eq]
    apply propext
    constructor
    · rintro ⟨a, x, rfl, e, h⟩
      exact ⟨a, rfl, x, e, h⟩
    · rintro ⟨a, rfl, x, e, h⟩
      exact ⟨a, x, rfl, e, h⟩
  show fe s _ V.er = _
  rw [this]
theorem e_kTake : (kTake i V d s1) = (bO (refOf d) (kTake2 i V s1)) := rfl
theorem e_kTake2 {a : Addr} : kTake2 i V s1 a = bO (s1.cs a) (kTake3 i V s1 a) := rfl
theorem e_kTake3 {a : Addr} : kTake3 i V s1 a x = V.nx ((s1.set i (some x)).cell a none) := rfl
def kFor (gt : Dt → Sl → (Sl → Prop) → Prop) (fb : Ws) (V : VEnds) (ds : List Dt) (s0 : Sl) : Prop := ∃ I : Nat → Sl → Prop, I 0 s0 ∧ (∀ i s d, ds[i]? = some d → I i s → gt d s fun s1 => fb s1 { V with nx := I (i + 1), ct := I (i + 1), bk := V.nx }) ∧ ∀ s, I ds.length s → V.nx s
theorem e_For : (sFor fi gt fS s V) = (fi s (kFor gt fS V) V.er) := rfl
theorem r_for (I : Nat → Sl → Prop) (h0 : I 0 s) (ht : ∀ i s d, ds[i]? = some d → I i s → gt d s (fun s1 => fS s1 { V with nx := I (i + 1), ct := I (i + 1), bk := V.nx })) (hd : ∀ s, I ds.length s → V.nx s) : kFor gt fS V ds s := ⟨I, h0, ht, hd⟩
def kWh (fb : Ws) (V : VEnds) (I : Nat → Sl → Prop) (m : Nat) (b : Bool) (s1 : Sl) : Prop := if b = true then fb s1 ⟨fun s' => ∃ m', m' < m ∧ I m' s', V.rt, V.nx, fun s' => ∃ m', m' < m ∧ I m' s', V.er⟩ else V.nx s1
theorem e_kWh {I : Nat → Sl → Prop} : kWh fS V I m b s1 = if b = true then fS s1 ⟨fun s' => ∃ m', m' < m ∧ I m' s', V.rt, V.nx, fun s' => ∃ m', m' < m ∧ I m' s', V.er⟩ else V.nx s1 := rfl
theorem r_wh (I : Nat → Sl → Prop) (m0 : Nat) (h0 : I m0 s) (h : ∀ m s, I m s → ft s (kWh fS V I m) V.er) : sWhile ft fS s V := ⟨I, ⟨m0, h0⟩, h⟩
def kCall (n : Nat) (io : List Nat) (S : Fs) (P : PD) (E : PEr) (as : List ArgV) (s1 : Sl) : Prop := wCore n io S as s1 P E
theorem e_Call : (wCall n io S fr s P E) = (fr s (kCall n io S P E) E) := rfl
theorem e_kCall : (kCall n io S P E as s1) = (wCore n io S as s1 P E) := rfl
theorem e_NilR : (wNilR s PR E) = (PR [] s) := rfl
def kConsR2 (h : ArgV) (PR : List ArgV → Sl → Prop) (as : List ArgV) (s2 : Sl) : Prop := PR (h :: as) s2
def kConsR1 (fr : Wt (List ArgV)) (PR : List ArgV → Sl → Prop) (E : PEr) (h : ArgV) (s1 : Sl) : Prop := fr s1 (kConsR2 h PR) E
theorem e_ConsR : (wConsR fh fr s PR E) = (fh s (kConsR1 fr PR E) E) := rfl
theorem e_kConsR1 : (kConsR1 fr PR E h s1) = (fr s1 (kConsR2 h PR) E) := rfl
theorem e_kConsR2 : (kConsR2 h PR as s2) = (PR (h :: as) s2) := rfl
/-- behind a call -/
def kBack (ps : List Plc) (l : List (Option Dt)) {α : Type} (P : α → Sl → Prop) (d : α) (outs : List Dt) (cs' : Cells) : Prop := P d (putP ps outs ⟨l, cs'⟩)
theorem e_kBack {ps : List Plc} {l : List (Option Dt)} {α : Type} {P : α → Sl → Prop} {d : α} {outs : List Dt} {cs' : Cells} : kBack ps l P d outs cs' = P d (putP ps outs ⟨l, cs'⟩) := rfl
theorem r_call (ds : List Dt) (ps : List Plc) (h1 : valsOf s as = some ds) (h2 : plcsOf as io = some ps) (nd : ps.Nodup) (ok : argsOk io as = true) (hl : as.length = n)
    (h : S ds (delP ps s.cs) (kBack ps s.l P) (kBack ps s.l E)) : wCore n io S as s P E := ⟨ds, ps, hl, h1, h2, nd, ok, h⟩
theorem e_putP0 {ds : List Dt} : putP [] ds s = s := by
  unfold putP
  rfl
theorem e_putP1 {ks : List Plc} {k : Nat} : putP (.inl k :: ks) (d :: ds) s = putP ks ds (s.set k (some d)) := rfl
theorem e_putP2 {ks : List Plc} {k : Addr} : putP (.inr k :: ks) (d :: ds) s = putP ks ds (s.cell k (some d)) := rfl
theorem e_delP0 {cs : Cells} : delP [] cs = cs := rfl
theorem e_delP1 {ks : List Plc} {k : Nat} {cs : Cells} : delP (.inl k :: ks) cs = delP ks cs := rfl
theorem e_delP2 {ks : List Plc} {k : Addr} {cs : Cells} : delP (.inr k :: ks) cs = delP ks (cput cs k none) := rfl
def kRg1 (PL : List Dt → Sl → Prop) (ds : List Dt) (s1 : Sl) : Prop := ∃ n, ds = [.int n] ∧ -(2 ^ 62) ≤ n ∧ n < 2 ^ 62 ∧ PL (rgD 0 n.toNat) s1
def kRg2 (PL : List Dt → Sl → Prop) (ds : List Dt) (s1 : Sl) : Prop := ∃ a b, ds = [.int a, .int b] ∧ (-(2 ^ 62) ≤ a ∧ a < 2 ^ 62 ∧ -(2 ^ 62) ≤ b ∧ b < 2 ^ 62) ∧ PL (rgD a (b - a).toNat) s1
def kEnL (PL : List Dt → Sl → Prop) (d : Dt) (s1 : Sl) : Prop := ∃ ds, d = .list ds ∧ PL (enD ds) s1
def kEnT (PL : List Dt → Sl → Prop) (d : Dt) (s1 : Sl) : Prop := ∃ ds, d = .tuple ds ∧ PL (enD ds) s1
def kEn2 (PL : List Dt → Sl → Prop) (s1 : Sl) (ds : List Dt) : Prop := PL (enD ds) s1
def kZp (t1 t2 : Bool) (PL : List Dt → Sl → Prop) (ds : List Dt) (s1 : Sl) : Prop := ∃ as bs, ds = [seqD t1 as, seqD t2 bs] ∧ as.length = bs.length ∧ PL (zpD as bs) s1
def kZp2 (PL : List Dt → Sl → Prop) (s1 : Sl) (q : List Dt × List Dt) : Prop := q.1.length = q.2.length ∧ PL (zpD q.1 q.2) s1
def sqOf : Bool → Dt → Option (List Dt)
  | true, .tuple ds => some ds
  | false, .list ds => some ds
  | _, _ => none
theorem e_Yes : (wYes s PB E) = (PB true s) := rfl
def kItF (P : List Dt → Sl → Prop) (d : Dt) (s1 : Sl) : Prop := ∃ ns, d = .lsF ns ∧ P (ns.map .int) s1
theorem e_ItF : (wItF f s PL E) = (f s (kItF PL) E) := rfl
theorem e_kItF {ns : List Int} : kItF PL (.lsF ns) s1 = PL (ns.map .int) s1 := by
  apply propext
  constructor
  · rintro ⟨ms, e, h⟩
    cases e
    exact h
  · intro h
    exact ⟨ns, rfl, h⟩
def kItT (PL : List Dt → Sl → Prop) (d : Dt) (s1 : Sl) : Prop := ∃ ds, d = .tuple ds ∧ PL ds s1
theorem e_ItT : (wItT f s PL E) = (f s (kItT PL) E) := rfl
theorem e_kItT : (kItT PL d s1) = (bO (tupOf d) (fl1 PL s1)) := by rw [tupOf_eq]; rfl
def kItL (PL : List Dt → Sl → Prop) (d : Dt) (s1 : Sl) : Prop := ∃ ds, d = .list ds ∧ PL ds s1
theorem e_ItL : (wItL f s PL E) = (f s (kItL PL) E) := rfl
theorem e_kItL : (kItL PL d s1) = (bO (lstOf d) (fl1 PL s1)) := by rw [lstOf_eq]; rfl
def kLcS (vs : List Nat) (gt : Dt → Sl → (Sl → Prop) → Prop) (ft : Wt Bool) (fe : Wt Dt) (P : PD) (ds : List Dt) (s0 : Sl) : Prop := ∃ I : Nat → List Dt → Sl → Prop, I 0 [] (wipeS s0 vs) ∧ (∀ i acc s d, ds[i]? = some d → I i acc s → gt d s fun s1 => ft s1 (fun b s2 => if b = true then fe s2 (fun y s3 => acc.length < 1000000 ∧ I (i + 1) (acc ++ [y]) (wipeS s3 vs)) EF else I (i + 1) acc (wipeS s2 vs)) EF) ∧ ∀ acc s, I ds.length acc s → P (.list acc) s
theorem wipe_0 {l : List (Option Dt)} {cs : Cells} : wipeS ⟨l, cs⟩ [] = ⟨l, cs⟩ := rfl
theorem wipe_1 {l : List (Option Dt)} {cs : Cells} {i : Nat} {r : List Nat} : wipeS ⟨l, cs⟩ (i :: r) = wipeS ⟨l.set i none, cs⟩ r := rfl
def kME (vs : List Nat) (R : PD) (y : Dt) (s3 : Sl) : Prop := R y (wipeS s3 vs)
def kMB (fe : Wt Dt) (vs : List Nat) (R : PD) (N : Sl → Prop) (b : Bool) (s2 : Sl) : Prop := if b = true then fe s2 (kME vs R) EF else N (wipeS s2 vs)
def kMT (ft : Wt Bool) (fe : Wt Dt) (vs : List Nat) (R : PD) (N : Sl → Prop) (s1 : Sl) : Prop := ft s1 (kMB fe vs R N) EF
theorem e_kME {vs : List Nat} {R : PD} : kME vs R y s3 = R y (wipeS s3 vs) := rfl
theorem e_kMB {vs : List Nat} {R : PD} {N : Sl → Prop} : kMB fe vs R N b s2 = if b = true then fe s2 (kME vs R) EF else N (wipeS s2 vs) := rfl
theorem e_kMT {vs : List Nat} {R : PD} {N : Sl → Prop} : kMT ft fe vs R N s1 = ft s1 (kMB fe vs R N) EF := rfl
theorem e_LcS {vs : List Nat} : wLc vs fi gt ft fe s P E = fi s (kLcS vs gt ft fe P) E := rfl
theorem e_Rg1 : wRg1 fl s PL E = fl s (kRg1 PL) E := rfl
theorem e_kRg1 {n : Int} : kRg1 PL [.int n] s1 = (-(2 ^ 62) ≤ n ∧ n < 2 ^ 62 ∧ PL (rgD 0 n.toNat) s1) := by
  apply propext
  constructor
  · rintro ⟨m, e, h⟩
    cases e
    exact h
  · intro h
    exact ⟨n, rfl, h⟩
theorem e_Rg2 : wRg2 fl s PL E = fl s (kRg2 PL) E := rfl
theorem e_kRg2 {a b : Int} : kRg2 PL [.int a, .int b] s1 = ((-(2 ^ 62) ≤ a ∧ a < 2 ^ 62 ∧ -(2 ^ 62) ≤ b ∧ b < 2 ^ 62) ∧ PL (rgD a (b - a).toNat) s1) := by
  apply propext
  constructor
  · rintro ⟨_, _, e, h⟩
    cases e
    exact h
  · intro h
    exact ⟨a, b, rfl, h⟩
theorem e_EnL : wEn f true s PL E = f s (kEnL PL) E := rfl
theorem e_kEnL : kEnL PL d s1 = bO (lstOf d) (kEn2 PL s1) := by rw [lstOf_eq]; rfl
theorem e_EnT : wEn f false s PL E = f s (kEnT PL) E := rfl
theorem e_kEnT : kEnT PL d s1 = bO (tupOf d) (kEn2 PL s1) := by rw [tupOf_eq]; rfl
theorem e_kEn2 : kEn2 PL s1 ds = PL (enD ds) s1 := rfl
theorem e_Zp {b' : Bool} : wZp b b' fl s PL E = fl s (kZp b b' PL) E := rfl
theorem e_kZp {b' : Bool} : kZp b b' PL [x, y] s1 = bO ((sqOf b x).bind fun as => (sqOf b' y).map fun bs => (as, bs)) (kZp2 PL s1) := by
  apply propext
  constructor
  · rintro ⟨as, bs, e, hl, h⟩
    cases e
    refine ⟨(as, bs), ?_, hl, h⟩
    cases b <;> cases b' <;> rfl
  · rintro ⟨⟨as, bs⟩, e, hl, h⟩
    refine ⟨as, bs, ?_, hl, h⟩
    cases b <;> cases b' <;> cases x <;> first | (cases e; done) | (cases y <;> first | (cases e; done) | (cases e; rfl))
theorem e_kZp2 {bs : List Dt} : kZp2 PL s1 (ds, bs) = (ds.length = bs.length ∧ PL (zpD ds bs) s1) := rfl
theorem sq_t {ds : List Dt} : sqOf true (.tuple ds) = some ds := rfl
theorem sq_l {ds : List Dt} : sqOf false (.list ds) = some ds := rfl
theorem e_No : (wNo s PO E) = (PO none s) := rfl
def kPt (PO : Option Int → Sl → Prop) (d : Dt) (s1 : Sl) : Prop := ∃ i, d = .int i ∧ PO (some i) s1
def kPt2 (PO : Option Int → Sl → Prop) (s1 : Sl) (i : Int) : Prop := PO (some i) s1
theorem e_Pt : (wPt f s PO E) = (f s (kPt PO) E) := rfl
theorem e_kPt : (kPt PO d s1) = (bO (intOf d) (kPt2 PO s1)) := by rw [intOf_eq]; rfl
theorem e_kPt2 {i : Int} : kPt2 PO s1 i = PO (some i) s1 := rfl
def kSlT4 (P : PD) (l h : Option Int) (s3 : Sl) (ds : List Dt) : Prop := P (.tuple (cutP ds l h)) s3
def kSlT3 (P : PD) (x : Dt) (l : Option Int) (h : Option Int) (s3 : Sl) : Prop := ∃ ds, x = .tuple ds ∧ P (.tuple (cutP ds l h)) s3
def kSlT2 (f2 : Wt (Option Int)) (P : PD) (E : PEr) (x : Dt) (l : Option Int) (s2 : Sl) : Prop := f2 s2 (kSlT3 P x l) E
def kSlT1 (f1 f2 : Wt (Option Int)) (P : PD) (E : PEr) (x : Dt) (s1 : Sl) : Prop := f1 s1 (kSlT2 f2 P E x) E
theorem e_SlT : (wSlT fa f1 f2 s P E) = (fa s (kSlT1 f1 f2 P E) E) := rfl
theorem e_kSlT1 : (kSlT1 f1 f2 P E x s1) = (f1 s1 (kSlT2 f2 P E x) E) := rfl
theorem e_kSlT2 : (kSlT2 f2 P E x l s2) = (f2 s2 (kSlT3 P x l) E) := rfl
theorem e_kSlT3 : (kSlT3 P x l hi s3) = (bO (tupOf x) (kSlT4 P l hi s3)) := by rw [tupOf_eq]; rfl
theorem e_kSlT4 : (kSlT4 P l hi s3 ds) = (P (.tuple (cutP ds l hi)) s3) := rfl
def kSlL4 (P : PD) (l h : Option Int) (s3 : Sl) (ds : List Dt) : Prop := P (.list (cutP ds l h)) s3
def kSlL3 (P : PD) (x : Dt) (l : Option Int) (h : Option Int) (s3 : Sl) : Prop := ∃ ds, x = .list ds ∧ P (.list (cutP ds l h)) s3
def kSlL2 (f2 : Wt (Option Int)) (P : PD) (E : PEr) (x : Dt) (l : Option Int) (s2 : Sl) : Prop := f2 s2 (kSlL3 P x l) E
def kSlL1 (f1 f2 : Wt (Option Int)) (P : PD) (E : PEr) (x : Dt) (s1 : Sl) : Prop := f1 s1 (kSlL2 f2 P E x) E
theorem e_SlL : (wSlL fa f1 f2 s P E) = (fa s (kSlL1 f1 f2 P E) E) := rfl
theorem e_kSlL1 : (kSlL1 f1 f2 P E x s1) = (f1 s1 (kSlL2 f2 P E x) E) := rfl
theorem e_kSlL2 : (kSlL2 f2 P E x l s2) = (f2 s2 (kSlL3 P x l) E) := rfl
theorem e_kSlL3 : (kSlL3 P x l hi s3) = (bO (lstOf x) (kSlL4 P l hi s3)) := by rw [lstOf_eq]; rfl
theorem e_kSlL4 : (kSlL4 P l hi s3 ds) = (P (.list (cutP ds l hi)) s3) := rfl
theorem e_Prs0 : (wPairs [] s PP E) = (PP [] s) := rfl
def kPr3 (k v : Dt) (PP : Prs → Sl → Prop) (ps : Prs) (s3 : Sl) : Prop := PP ((k, v) :: ps) s3
def kPr2 (r : List (Wt Dt × Wt Dt)) (PP : Prs → Sl → Prop) (E : PEr) (k : Dt) (v : Dt) (s2 : Sl) : Prop := wPairs r s2 (kPr3 k v PP) E
def kPr1 (fv : Wt Dt) (r : List (Wt Dt × Wt Dt)) (PP : Prs → Sl → Prop) (E : PEr) (k : Dt) (s1 : Sl) : Prop := fv s1 (kPr2 r PP E k) E
theorem e_Prs1 {r : List (Wt Dt × Wt Dt)} : wPairs ((fk, fv) :: r) s PP E = fk s (kPr1 fv r PP E) E := rfl
theorem e_kPr1 {r : List (Wt Dt × Wt Dt)} : kPr1 fv r PP E kd s1 = fv s1 (kPr2 r PP E kd) E := rfl
theorem e_kPr2 {r : List (Wt Dt × Wt Dt)} : kPr2 r PP E kd v s2 = wPairs r s2 (kPr3 kd v PP) E := rfl
theorem e_kPr3 : (kPr3 kd v PP ps s3) = (PP ((kd, v) :: ps) s3) := rfl
def kDi2 (n : Nat) (P : PD) (s1 : Sl) (es : Kvs) : Prop := n ≤ 15 ∧ P (.dic (mergeKD [] es)) s1
def kDi (P : PD) (ps : Prs) (s1 : Sl) : Prop := ∃ es, ksOf ps = some es ∧ kDi2 ps.length P s1 es
theorem e_Di {fs : List (Wt Dt × Wt Dt)} : wDisp fs s P E = wPairs fs s (kDi P) E := rfl
theorem e_kDi : (kDi P ps s1) = (bO (ksOf ps) (kDi2 ps.length P s1)) := rfl
theorem e_kDi2 {es : Kvs} : kDi2 n P s1 es = (n ≤ 15 ∧ P (.dic (mergeKD [] es)) s1) := rfl
theorem e_ks0 : ksOf [] = some [] := rfl
theorem e_ks1 {x : Str} {es : Prs} : ksOf ((.str x, v) :: es) = (ksOf es).map fun r => (Sum.inr x, v) :: r := by
  show (match some (Sum.inr x), ksOf es with | some k, some es => some ((k, v) :: es) | _, _ => none) = _
  cases ksOf es <;> rfl
theorem e_ks2 {x : Int} {es : Prs} : ksOf ((.int x, v) :: es) = (ksOf es).map fun r => (Sum.inl x, v) :: r := by
  show (match some (Sum.inl x), ksOf es with | some k, some es => some ((k, v) :: es) | _, _ => none) = _
  cases ksOf es <;> rfl
theorem e_NewD : (wNewD s P E) = (P (.dic []) s) := rfl
def kMu5 (h : ArgV) (P : PD) (s1 : Sl) (q : Dt × Dt) : Prop := P q.1 (putA s1 h q.2)
def kMu4 (g : Dt → List Dt → Option (Dt × Dt)) (h : ArgV) (xs : List Dt) (P : PD) (s1 : Sl) (d : Dt) : Prop := bO (g d xs) (kMu5 h P s1)
def kMu3 (g : Dt → List Dt → Option (Dt × Dt)) (h : ArgV) (P : PD) (xs : List Dt) (s1 : Sl) : Prop := ∃ d, valOf s1 h = some d ∧ kMu4 g h xs P s1 d
def kMu2 (T : String) (g : Dt → List Dt → Option (Dt × Dt)) (fl : Wt (List Dt)) (h : ArgV) (P : PD) (E : PEr) (s0 : Sl) (d0 : Dt) : Prop := isTy T d0 = true ∧ fl s0 (kMu3 g h P) E
def kMu1 (T : String) (g : Dt → List Dt → Option (Dt × Dt)) (fl : Wt (List Dt)) (P : PD) (E : PEr) (h : ArgV) (s0 : Sl) : Prop := (plc h).isSome = true ∧ bO (valOf s0 h) (kMu2 T g fl h P E s0)
theorem e_Mu : (wMu T gm fo fl s P E) = (fo s (kMu1 T gm fl P E) E) := by
  have e3 : ∀ h, (fun (xs : List Dt) (s1 : Sl) => ∃ d, valOf s1 h = some d ∧ ∃ w d', gm d xs = some (w, d') ∧ P w (putA s1 h d')) = kMu3 gm h P := by
    intro h
    funext xs s1
    apply propext
    constructor
    · rintro ⟨d, e, w, d', e2, q⟩
      exact ⟨d, e, (w, d'), e2, q⟩
    · rintro ⟨d, e, ⟨w, d'⟩, e2, q⟩
      exact ⟨d, e, w, d', e2, q⟩
  have : (fun (h : ArgV) (s0 : Sl) => (plc h).isSome = true ∧ ∃ d0, valOf s0 h = some d0 ∧ isTy T d0 = true ∧ fl s0 (fun xs s1 => ∃ d, valOf s1 h = some d ∧ ∃ w d', gm d xs = some (w, d') ∧ P w (putA s1 h d')) E) = kMu1 T gm fl P E := by
    funext h s0
    rw [e3 h]
    rfl
  show fo s _ E = _
  rw [this]
theorem e_kMu1 : (kMu1 T gm fl P E h s1) = ((plc h).isSome = true ∧ bO (valOf s1 h) (kMu2 T gm fl h P E s1)) := rfl
theorem e_kMu2 : (kMu2 T gm fl h P E s1 d) = (isTy T d = true ∧ fl s1 (kMu3 gm h P) E) := rfl
theorem e_kMu3 : (kMu3 gm h P xs s1) = (bO (valOf s1 h) (kMu4 gm h xs P s1)) := rfl
theorem e_kMu4 : (kMu4 gm h xs P s1 d) = (bO (gm d xs) (kMu5 h P s1)) := rfl
theorem e_kMu5 : kMu5 h P s1 (w, d) = P w (putA s1 h d) := rfl
def kPD5 (h : ArgV) (v : Dt) (V : VEnds) (s3 : Sl) (es : Kvs) (k : Key) : Prop := es.length < 1000000 ∧ V.nx (putA s3 h (.dic (putKD es k v)))
def kPD4 (h : ArgV) (v : Dt) (V : VEnds) (kd : Dt) (s3 : Sl) (es : Kvs) : Prop := bO (kOf kd) (kPD5 h v V s3 es)
def kPD3 (h : ArgV) (v : Dt) (V : VEnds) (kd : Dt) (s3 : Sl) : Prop := bO (dicOf (valOf s3 h)) (kPD4 h v V kd s3)
def kPD2 (fk : Wt Dt) (v : Dt) (V : VEnds) (h : ArgV) (s2 : Sl) : Prop := (plc h).isSome = true ∧ fk s2 (kPD3 h v V) V.er
def kPD1 (fo : Wt ArgV) (fk : Wt Dt) (V : VEnds) (v : Dt) (s1 : Sl) : Prop := fo s1 (kPD2 fk v V) V.er
theorem e_PD : (sPutD fo fk fv s V) = (fv s (kPD1 fo fk V) V.er) := by
  have e3 : ∀ h v, (fun (kd : Dt) (s3 : Sl) => ∃ es k, valOf s3 h = some (.dic es) ∧ kOf kd = some k ∧ es.length < 1000000 ∧ V.nx (putA s3 h (.dic (putKD es k v)))) = kPD3 h v V := by
    intro h v
    funext kd s3
    unfold kPD3
    rw [dicOf_eq]
    apply propext
    constructor
    · rintro ⟨es, k, e, e2, q⟩
      exact ⟨es, e, k, e2, q⟩
    · rintro ⟨es, e, k, e2, q⟩
      exact ⟨es, k, e, e2, q⟩
  have : (fun (v : Dt) (s1 : Sl) => fo s1 (fun h s2 => (plc h).isSome = true ∧ fk s2 (fun kd s3 => ∃ es k, valOf s3 h = some (.dic es) ∧ kOf kd = some k ∧ es.length < 1000000 ∧ V.nx (putA s3 h (.dic (putKD es k v)))) V.er) V.er) = kPD1 fo fk V := by
    funext v s1
    unfold kPD1
    congr 1
    funext h s2
    rw [e3 h v]
    rfl
  show fv s _ V.er = _
  rw [this]
theorem e_kPD1 : (kPD1 fo fk V v s1) = (fo s1 (kPD2 fk v V) V.er) := rfl
theorem e_kPD2 : (kPD2 fk v V h s2) = ((plc h).isSome = true ∧ fk s2 (kPD3 h v V) V.er) := rfl
theorem e_kPD3 : (kPD3 h v V kd s3) = (bO (dicOf (valOf s3 h)) (kPD4 h v V kd s3)) := rfl
theorem e_kPD4 {es : Kvs} : kPD4 h v V kd s3 es = bO (kOf kd) (kPD5 h v V s3 es) := rfl
theorem e_kPD5 {es : Kvs} {k : Key} : kPD5 h v V s3 es k = (es.length < 1000000 ∧ V.nx (putA s3 h (.dic (putKD es k v)))) := rfl
def iS (s : Sl) (i : Nat) : Option Int := (gS s i).bind intOf
theorem bO_iS {f : Int → Prop} : bO (iS s i) f = ∃ n, s.l[i]? = some (some (.int n)) ∧ f n := by
  apply propext
  constructor
  · rintro ⟨n, e, h⟩
    unfold iS at e
    cases q : gS s i with
    | none => rw [q] at e; cases e
    | some d =>
      rw [q] at e
      have e : intOf d = some n := e
      cases d <;> first | cases e | skip
      exact ⟨_, gS_iff.mp q, h⟩
  · rintro ⟨n, e, h⟩
    refine ⟨n, ?_, h⟩
    unfold iS
    rw [gS_iff.mpr e]
    rfl
theorem iS_some {n : Int} (h : gS s i = some (.int n)) : iS s i = some n := by
  unfold iS
  rw [h]
  rfl
theorem e_iS : iS s i = (gS s i).bind intOf := rfl
def kAI3 (i : Nat) (g : Int → Int → Int) (V : VEnds) (n : Int) (s1 : Sl) (m : Int) : Prop := V.nx (s1.set i (some (.int (g n m))))
def kAI2 (i : Nat) (g : Int → Int → Int) (V : VEnds) (n : Int) (y : Dt) (s1 : Sl) : Prop := ∃ m, y = .int m ∧ V.nx (s1.set i (some (.int (g n m))))
def kAI1 (i : Nat) (g : Int → Int → Int) (fe : Wt Dt) (s : Sl) (V : VEnds) (n : Int) : Prop := fe s (kAI2 i g V n) V.er
theorem e_AI {g : Int → Int → Int} : sAugI i g fe s V = bO (iS s i) (kAI1 i g fe s V) := by rw [bO_iS]; rfl
theorem e_kAI1 {g : Int → Int → Int} {n : Int} : kAI1 i g fe s V n = fe s (kAI2 i g V n) V.er := rfl
theorem e_kAI2 {g : Int → Int → Int} {n : Int} : kAI2 i g V n y s1 = bO (intOf y) (kAI3 i g V n s1) := by rw [intOf_eq]; rfl
theorem e_kAI3 {g : Int → Int → Int} {n m : Int} : kAI3 i g V n s1 m = V.nx (s1.set i (some (.int (g n m)))) := rfl
def kAL4 (i : Nat) (V : VEnds) (s1 : Sl) (es ds : List Dt) : Prop := ds.length + es.length ≤ 1000000 ∧ V.nx (s1.set i (some (.list (ds ++ es))))
def kAL3 (i : Nat) (V : VEnds) (s1 : Sl) (es : List Dt) : Prop := bO ((gS s1 i).bind lstOf) (kAL4 i V s1 es)
def kAL2 (i : Nat) (V : VEnds) (y : Dt) (s1 : Sl) : Prop := bO (lstOf y) (kAL3 i V s1)
def kAL1 (i : Nat) (fe : Wt Dt) (s : Sl) (V : VEnds) (d : Dt) : Prop := fe s (kAL2 i V) V.er
theorem bO_lS {f : List Dt → Prop} : bO ((gS s i).bind lstOf) f = ∃ n, s.l[i]? = some (some (.list n)) ∧ f n := by
  apply propext
  constructor
  · rintro ⟨n, e, h⟩
    cases q : gS s i with
    | none => rw [q] at e; cases e
    | some d =>
      rw [q] at e
      have e : lstOf d = some n := e
      cases d <;> first | cases e | skip
      exact ⟨_, gS_iff.mp q, h⟩
  · rintro ⟨n, e, h⟩
    refine ⟨n, ?_, h⟩
    rw [gS_iff.mpr e]
    rfl
theorem e_AL : sAugL i fe s V = bO (gS s i) (kAL1 i fe s V) := by
  rw [bO_gS]
  have : (fun (y : Dt) (s1 : Sl) => ∃ ds es, y = .list es ∧ s1.l[i]? = some (some (.list ds)) ∧ ds.length + es.length ≤ 1000000 ∧ V.nx (s1.set i (some (.list (ds ++ es))))) = kAL2 i V := by
    funext y s1
    unfold kAL2 kAL3
    rw [lstOf_eq]
    apply propext
    constructor
    · rintro ⟨ds, es, rfl, e, q⟩
      refine ⟨es, rfl, ?_⟩
      rw [bO_lS]
      exact ⟨ds, e, q⟩
    · rintro ⟨es, rfl, q⟩
      rw [bO_lS] at q
      obtain ⟨ds, e, q⟩ := q
      exact ⟨ds, es, rfl, e, q⟩
  show (∃ d0, s.l[i]? = some (some d0) ∧ fe s _ V.er) = _
  rw [this]
  rfl
theorem e_kAL1 : kAL1 i fe s V d = fe s (kAL2 i V) V.er := rfl
theorem e_kAL2 : kAL2 i V y s1 = bO (lstOf y) (kAL3 i V s1) := rfl
theorem e_kAL3 : kAL3 i V s1 xs = bO ((gS s1 i).bind lstOf) (kAL4 i V s1 xs) := rfl
theorem e_kAL4 : kAL4 i V s1 xs ds = (ds.length + xs.length ≤ 1000000 ∧ V.nx (s1.set i (some (.list (ds ++ xs))))) := rfl
theorem e_Raise : (sRaise nm s V) = (V.er nm s) := rfl
def kFld2 (f : Str) (P : PD) (s1 : Sl) (es : Fds) : Prop := bO (fget es f) (fl1 P s1)
def kFld (n f : Str) (P : PD) (h : ArgV) (s1 : Sl) : Prop := bO (insOf n (valOf s1 h)) (kFld2 f P s1)
theorem e_Fld : (wFld nm fn' fh s P E) = (fh s (kFld nm fn' P) E) := by
  have : (fun (h : ArgV) (s1 : Sl) => ∃ es d, valOf s1 h = some (.ins nm es) ∧ fget es fn' = some d ∧ P d s1) = kFld nm fn' P := by
    funext h s1
    unfold kFld
    rw [insOf_eq]
    apply propext
    constructor
    · rintro ⟨es, d, e, e2, q⟩
      exact ⟨es, e, d, e2, q⟩
    · rintro ⟨es, e, d, e2, q⟩
      exact ⟨es, d, e, e2, q⟩
  show fh s _ E = _
  rw [this]
theorem e_kFld : (kFld nm fn' P h s1) = (bO (insOf nm (valOf s1 h)) (kFld2 fn' P s1)) := rfl
theorem e_kFld2 {es : Fds} : kFld2 fn' P s1 es = bO (fget es fn') (fl1 P s1) := rfl
def kSF3 (n f : Str) (d : Dt) (V : VEnds) (h : ArgV) (s2 : Sl) (es : Fds) : Prop := es.length < 1000 ∧ V.nx (putA s2 h (.ins n (fput f d es)))
def kSF2 (n f : Str) (d : Dt) (V : VEnds) (h : ArgV) (s2 : Sl) : Prop := (plc h).isSome = true ∧ bO (insOf n (valOf s2 h)) (kSF3 n f d V h s2)
def kSF1 (n f : Str) (fo : Wt ArgV) (V : VEnds) (d : Dt) (s1 : Sl) : Prop := fo s1 (kSF2 n f d V) V.er
theorem e_SF : (sFldW nm fn' fo fv s V) = (fv s (kSF1 nm fn' fo V) V.er) := by
  have : ∀ d, (fun (h : ArgV) (s2 : Sl) => (plc h).isSome = true ∧ ∃ es, valOf s2 h = some (.ins nm es) ∧ es.length < 1000 ∧ V.nx (putA s2 h (.ins nm (fput fn' d es)))) = kSF2 nm fn' d V := by
    intro d
    funext h s2
    unfold kSF2
    rw [insOf_eq]
    rfl
  show fv s (fun d s1 => fo s1 _ V.er) V.er = _
  congr 1
  funext d s1
  rw [this d]
  rfl
theorem e_kSF1 : (kSF1 nm fn' fo V d s1) = (fo s1 (kSF2 nm fn' d V) V.er) := rfl
theorem e_kSF2 : (kSF2 nm fn' d V h s2) = ((plc h).isSome = true ∧ bO (insOf nm (valOf s2 h)) (kSF3 nm fn' d V h s2)) := rfl
theorem e_kSF3 {es : Fds} : kSF3 nm fn' d V h s2 es = (es.length < 1000 ∧ V.nx (putA s2 h (.ins nm (fput fn' d es)))) := rfl
def kMe2 (m : Str) (N : Nat) (io : List Nat) (S : Fs) (h : ArgV) (P : PD) (E : PEr) (as : List ArgV) (s1 : Sl) : Prop := wCore N io S (h :: as) s1 P E
def kMe1 (m : Str) (N : Nat) (io : List Nat) (S : Fs) (fr : Wt (List ArgV)) (P : PD) (E : PEr) (h : ArgV) (s0 : Sl) (es : Fds) : Prop := fget es m = none ∧ fr s0 (kMe2 m N io S h P E) E
def kMe (n m : Str) (N : Nat) (io : List Nat) (S : Fs) (fr : Wt (List ArgV)) (P : PD) (E : PEr) (h : ArgV) (s0 : Sl) : Prop := bO (insOf n (valOf s0 h)) (kMe1 m N io S fr P E h s0)
theorem e_Me : (wMeth nm fn' n io S fo fr s P E) = (fo s (kMe nm fn' n io S fr P E) E) := by
  have : (fun (h : ArgV) (s0 : Sl) => ∃ es, valOf s0 h = some (.ins nm es) ∧ fget es fn' = none ∧ fr s0 (fun as s1 => wCore n io S (h :: as) s1 P E) E) = kMe nm fn' n io S fr P E := by
    funext h s0
    unfold kMe
    rw [insOf_eq]
    rfl
  show fo s _ E = _
  rw [this]
theorem e_kMe : (kMe nm fn' n io S fr P E h s1) = (bO (insOf nm (valOf s1 h)) (kMe1 fn' n io S fr P E h s1)) := rfl
theorem e_kMe1 {es : Fds} : kMe1 fn' n io S fr P E h s1 es = (fget es fn' = none ∧ fr s1 (kMe2 fn' n io S h P E) E) := rfl
theorem e_kMe2 : (kMe2 fn' n io S h P E as s1) = (wCore n io S (h :: as) s1 P E) := rfl
def kMk2 (x : Addr) (P : PD) (d : Dt) (s2 : Sl) : Prop := d = .none ∧ ∃ o, s2.cs x = some o ∧ P o (s2.cell x none)
def kMk3 (x : Addr) (P : PD) (s2 : Sl) (o : Dt) : Prop := P o (s2.cell x none)
def kMk (n : Str) (N : Nat) (io : List Nat) (S : Fs) (P : PD) (E : PEr) (as : List ArgV) (s1 : Sl) : Prop := ∀ x, s1.cs x = none → wCore N io S (.cell x :: as) (s1.cell x (some (.ins n []))) (kMk2 x P) E
theorem e_Mk : (wMake nm n io S fr s P E) = (fr s (kMk nm n io S P E) E) := rfl
theorem e_kMk : (kMk nm n io S P E as s1) = (∀ x, s1.cs x = none → wCore n io S (.cell x :: as) (s1.cell x (some (.ins nm []))) (kMk2 x P) E) := rfl
theorem e_kMk2 {x : Addr} : kMk2 x P d s2 = (d = .none ∧ bO (s2.cs x) (kMk3 x P s2)) := rfl
theorem e_kMk3 {x : Addr} : kMk3 x P s2 d = P d (s2.cell x none) := rfl
def kOut (P : List Dt → Cells → Prop) (cs : Cells) (o : List Dt) : Prop := P o cs
theorem e_vrt {P : Dt → List Dt → Cells → Prop} {Er : Str → List Dt → Cells → Prop} : (vends io P Er).rt d s = bO (outsOf s.l io) (kOut (P d) s.cs) := rfl
theorem e_vnx {P : Dt → List Dt → Cells → Prop} {Er : Str → List Dt → Cells → Prop} : (vends io P Er).nx s = bO (outsOf s.l io) (kOut (P .none) s.cs) := rfl
theorem e_ver {P : Dt → List Dt → Cells → Prop} {Er : Str → List Dt → Cells → Prop} : (vends io P Er).er nm s = bO (outsOf s.l io) (kOut (Er nm) s.cs) := rfl
theorem e_kOut {P : List Dt → Cells → Prop} {cs : Cells} : kOut P cs ds = P ds cs := rfl
theorem e_outs0 {l : List (Option Dt)} : outsOf l [] = some [] := rfl
theorem e_outs1 {is : List Nat} : outsOf s.l (i :: is) = (gS s i).bind fun d => (outsOf s.l is).map (d :: ·) := by
  show (match s.l[i]?, outsOf s.l is with | some (some d), some ds => some (d :: ds) | _, _ => none) = (match s.l[i]? with | some (some d) => some d | _ => none).bind _
  cases s.l[i]? with
  | none => rfl
  | some o =>
    cases o with
    | none => rfl
    | some d => cases outsOf s.l is <;> rfl
theorem e_outs2 {l : List (Option Dt)} {is : List Nat} : outsOf (some d :: l) (0 :: is) = (outsOf (some d :: l) is).map (d :: ·) := by
  show (match (some (some d)), outsOf (some d :: l) is with | some (some d), some ds => some (d :: ds) | _, _ => none) = _
  cases outsOf (some d :: l) is <;> rfl
end
/-- what a pure comprehension is: each thing turned, or left out -/
theorem r_map {vs : List Nat} {gt : Dt → Sl → (Sl → Prop) → Prop} {ft : Wt Bool} {fe : Wt Dt} {P : PD} {ds : List Dt} {s sw : Sl} (f : Dt → Option Dt) (hw : wipeS s vs = sw) (hl : ds.length ≤ 1000000)
    (h : ∀ d, d ∈ ds → ∀ (R : PD) (N : Sl → Prop), (∀ y, f d = some y → R y sw) → (f d = none → N sw) → gt d sw (kMT ft fe vs R N)) (hd : P (.list (ds.filterMap f)) sw) : kLcS vs gt ft fe P ds s := by
  have key : ∀ i d, ds[i]? = some d → (ds.take (i + 1)).filterMap f = (ds.take i).filterMap f ++ (match f d with | some y => [y] | none => []) := by
    intro i d e
    rw [List.take_succ, e, List.filterMap_append]
    congr 1
    show [d].filterMap f = _
    rw [List.filterMap_cons]
    cases f d <;> rfl
  refine ⟨fun i acc s => s = sw ∧ acc = (ds.take i).filterMap f, ⟨hw, by simp⟩, ?_, ?_⟩
  · rintro i acc s d e ⟨rfl, rfl⟩
    have hi : i < ds.length := (List.getElem?_eq_some_iff.mp e).1
    have hk := key i d e
    refine h d (List.mem_of_getElem? e) (fun y s' => ((ds.take i).filterMap f).length < 1000000 ∧ s' = _ ∧ (ds.take i).filterMap f ++ [y] = (ds.take (i + 1)).filterMap f) (fun s' => s' = _ ∧ (ds.take i).filterMap f = (ds.take (i + 1)).filterMap f) (fun y q => ?_) (fun q => ?_)
    · rw [q] at hk
      refine ⟨?_, rfl, hk.symm⟩
      have := List.length_filterMap_le f (ds.take i)
      rw [List.length_take] at this
      omega
    · rw [q, List.append_nil] at hk
      exact ⟨rfl, hk.symm⟩
  · rintro acc s ⟨rfl, rfl⟩
    rw [List.take_length]
    exact hd
theorem gDiv_int {a b : Int} (h : divB a b = true) : gDiv (.int a) (.int b) = some (.int (a / b)) := if_pos h
theorem gMod_int {a b : Int} (h : modB a b = true) : gMod (.int a) (.int b) = some (.int (a % b)) := if_pos h
theorem gMul_int {a b : Int} (h : mulB a b = true) : gMul (.int a) (.int b) = some (.int (a * b)) := if_pos h
theorem gI_int {f : Int → Int → Option Dt} {a b : Int} : gI f (.int a) (.int b) = f a b := rfl
theorem gAdd_i {a b : Int} : gAdd (.int a) (.int b) = some (.int (a + b)) := rfl
theorem gSub_i {a b : Int} : Dv.gSub (.int a) (.int b) = some (.int (a - b)) := rfl
theorem gLt_i {a b : Int} : gLt (.int a) (.int b) = some (.bool (decide (a < b))) := rfl
theorem gLe_i {a b : Int} : gLe (.int a) (.int b) = some (.bool (decide (a ≤ b))) := rfl
theorem gGt_i {a b : Int} : gGt (.int a) (.int b) = some (.bool (decide (b < a))) := rfl
theorem gGe_i {a b : Int} : gGe (.int a) (.int b) = some (.bool (decide (b ≤ a))) := rfl
theorem gEqI_i {a b : Int} : gEqI (.int a) (.int b) = some (.bool (decide (a = b))) := rfl
theorem gNeI_i {a b : Int} : gNeI (.int a) (.int b) = some (.bool (!decide (a = b))) := rfl
theorem plain_int (n : Int) : plain (.int n) = true := by simp [plain, SeqAt.shaped, Dt.py, PyData.canLay0, PyData.depth]
theorem plain_bool (n : Bool) : plain (.bool n) = true := by simp [plain, SeqAt.shaped, Dt.py, PyData.canLay0, PyData.depth]
theorem plain_none : plain .none = true := by simp [plain, SeqAt.shaped, Dt.py, PyData.canLay0, PyData.depth]
theorem plain_str {x : Str} : plain (.str x) = PyData.strOk x := by simp [plain, SeqAt.shaped, Dt.py, PyData.canLay0, PyData.depth]
/-- of one level -/
def flat : Dt → Bool
  | .none => true
  | .bool _ => true
  | .int _ => true
  | .str x => PyData.strOk x
  | _ => false
theorem flat_none : flat .none = true := rfl
theorem flat_bool {b : Bool} : flat (.bool b) = true := rfl
theorem flat_int {b : Int} : flat (.int b) = true := rfl
theorem flat_str {x : Str} : flat (.str x) = PyData.strOk x := rfl
theorem flat_py {d : Dt} (h : flat d = true) : d.py.canLay0 = true ∧ d.py.depth = 0 := by
  cases d <;> first | (cases h; done) | simp [Dt.py, PyData.canLay0, PyData.depth]
  exact h
theorem flat_all : ∀ {ds : List Dt}, ds.all flat = true → PyData.canLayAll0 (Dt.pyL ds) = true ∧ PyData.depthAll (Dt.pyL ds) = 0
  | [], _ => by simp [Dt.pyL, PyData.canLayAll0, PyData.depthAll]
  | d :: r, h => by
    rw [List.all_cons, Bool.and_eq_true] at h
    obtain ⟨h1, h2⟩ := flat_py h.1
    obtain ⟨h3, h4⟩ := flat_all h.2
    simp [Dt.pyL, PyData.canLayAll0, PyData.depthAll, h1, h2, h3, h4]
theorem plain_l {ds : List Dt} (h : ds.all flat = true) : plain (.list ds) = true := by
  obtain ⟨h1, h2⟩ := flat_all h
  simp [plain, SeqAt.shaped, Dt.py, PyData.canLay0, PyData.depth, h1, h2]
theorem plain_t {ds : List Dt} (h : ds.all flat = true) : plain (.tuple ds) = true := plain_lt (plain_l h)
theorem eq_ss {a b : Str} : eqD (.str a) (.str b) = decide (b = a) := by
  have e : eqD (.str a) (.str b) = decide (a = b) := by
    show PyData.eqv (.str a) (.str b) = _
    unfold PyData.eqv
    rfl
  rw [e]
  by_cases h : a = b
  · rw [decide_eq_true h, decide_eq_true h.symm]
  · rw [decide_eq_false h, decide_eq_false (fun z => h z.symm)]
theorem eq_ii {a b : Int} : eqD (.int a) (.int b) = decide (b = a) := by
  have e : eqD (.int a) (.int b) = decide (a = b) := by
    show PyData.eqv (.int a) (.int b) = _
    unfold PyData.eqv
    rfl
  rw [e]
  by_cases h : a = b
  · rw [decide_eq_true h, decide_eq_true h.symm]
  · rw [decide_eq_false h, decide_eq_false (fun z => h z.symm)]
theorem eq_si {a : Str} {b : Int} : eqD (.str a) (.int b) = false := by
  show PyData.eqv (.str a) (.int b) = _
  unfold PyData.eqv
  rfl
theorem eq_sn {a : Str} : eqD (.str a) .none = false := by
  show PyData.eqv (.str a) .none = _
  unfold PyData.eqv
  rfl
theorem eq_sb {a : Str} {b : Bool} : eqD (.str a) (.bool b) = false := by
  show PyData.eqv (.str a) (.bool b) = _
  unfold PyData.eqv
  rfl
theorem eq_st {a : Str} {b : List Dt} : eqD (.str a) (.tuple b) = false := by
  show PyData.eqv (.str a) (.tuple (Dt.pyL b)) = _
  unfold PyData.eqv
  rfl
theorem eq_sl {a : Str} {b : List Dt} : eqD (.str a) (.list b) = false := by
  show PyData.eqv (.str a) (.list (Dt.pyL b)) = _
  unfold PyData.eqv
  rfl
theorem mem_nil {d : Dt} : memD d [] = false := rfl
theorem mem_cons {d x : Dt} {ds : List Dt} : memD d (x :: ds) = (eqD x d || memD d ds) := rfl
theorem gIn_l {d : Dt} {ds : List Dt} (h1 : plain d = true) (h2 : ds.all flat = true) : gIn d (.list ds) = some (.bool (memD d ds)) := if_pos ⟨h1, plain_l h2⟩
theorem gIn_t {d : Dt} {ds : List Dt} (h1 : plain d = true) (h2 : ds.all flat = true) : gIn d (.tuple ds) = some (.bool (memD d ds)) := if_pos ⟨h1, plain_l h2⟩
theorem gNi_l {d : Dt} {ds : List Dt} (h1 : plain d = true) (h2 : ds.all flat = true) : gNotIn d (.list ds) = some (.bool (!memD d ds)) := if_pos ⟨h1, plain_l h2⟩
theorem gNi_t {d : Dt} {ds : List Dt} (h1 : plain d = true) (h2 : ds.all flat = true) : gNotIn d (.tuple ds) = some (.bool (!memD d ds)) := if_pos ⟨h1, plain_l h2⟩
theorem ite_or {a b : Prop} [Decidable a] [Decidable b] {A B : Prop} : (if (decide a || decide b) = true then A else B) = (if a ∨ b then A else B) := by
  by_cases h : a <;> by_cases h2 : b <;> simp [h, h2]
theorem gEqS_s {a b : Str} : gEqS (.str a) (.str b) = some (.bool (decide (a = b))) := rfl
theorem gNeS_s {a b : Str} : gNeS (.str a) (.str b) = some (.bool (!decide (a = b))) := rfl
theorem gMax2_i {a b : Int} : gMax2 [.int a, .int b] = some (.int (max a b)) := by
  show some (Dt.int (if b > a then b else a)) = _
  congr 2
  split <;> omega
theorem gMin2_i {a b : Int} : gMin2 [.int a, .int b] = some (.int (min a b)) := by
  show some (Dt.int (if b < a then b else a)) = _
  congr 2
  split <;> omega
theorem gInt_b {b : Bool} : gInt [.bool b] = some (.int (if b = true then 1 else 0)) := by cases b <;> rfl
theorem gInt_i {b : Int} : gInt [.int b] = some (.int b) := rfl
theorem gNeg_i {b : Int} : gNeg (.int b) = some (.int (-b)) := rfl
theorem len_l {ds : List Dt} : lenOf (.list ds) = some (.int ds.length) := rfl
theorem len_t {ds : List Dt} : lenOf (.tuple ds) = some (.int ds.length) := rfl
theorem len_f {ns : List Int} : lenOf (.lsF ns) = some (.int ns.length) := rfl
theorem not_dec {p : Prop} [Decidable p] {A B : Prop} : (if (!decide p) = true then A else B) = (if p then B else A) := by
  by_cases h : p
  · rw [if_pos h, decide_eq_true h]
    rfl
  · rw [if_neg h, decide_eq_false h]
    rfl
theorem int_eq {Q : Dt → List Dt → Cells → Prop} {a b : Int} {o : List Dt} {cs : Cells} (k : Q (.int b) o cs) (e : a = b) : Q (.int a) o cs := e ▸ k
theorem dt_eq {Q : Dt → List Dt → Cells → Prop} {a b : Dt} {o : List Dt} {cs : Cells} (k : Q b o cs) (e : a = b) : Q a o cs := e ▸ k
end Dv
/-! DvTab: what the module's top has written: dicts with text keys, tuples of texts; by value. -/
namespace Dv
open PySem PySem.Spec PyProof.Rows L2 Ts
/-- a written thing -/
inductive Lit where
  | int (i : Int)
  | str (x : Str)
  | name (x : Str)
  | tup (xs : List Str)
def strsB : List Value → List Str → Bool
  | [], [] => true
  | .str y _ :: r, x :: q => decide (y = x) && strsB r q
  | _, _ => false
def tupB (K : PySem.W.Frag) (a : Addr) (xs : List Str) : Bool := match K.lookup a with
  | some ⟨.type c, _, .seq its _, _⟩ => decide (c = "tuple") && (decide (its.size ≤ 1000) && strsB its.toList xs)
  | _ => false
def litB (K : PySem.W.Frag) : Lit → Value → Bool
  | .int i, .int j _ => decide (i = j)
  | .str x, .str y _ => decide (x = y)
  | .name x, .ref a => decide (a = He.ga K x)
  | .tup xs, .ref a => tupB K a xs
  | _, _ => false
abbrev Lits := List (Str × Lit)
def entB (K : PySem.W.Frag) : List DictEntry → Lits → Bool
  | [], [] => true
  | e :: r, q :: s => (match e.key with
    | .str y _ => decide (y = q.1)
    | _ => false) && (litB K q.2 e.val && entB K r s)
  | _, _ => false
def tabB (K : PySem.W.Frag) (a : Addr) (kvs : Lits) : Bool := match K.lookup a with
  | some ⟨_, _, .dict es _, _⟩ => entB K es.toList kvs
  | _ => false
def litD (K : PySem.W.Frag) : Lit → Dt
  | .int i => .int i
  | .str x => .str x
  | .name x => .ref (He.ga K x)
  | .tup xs => .tuple (xs.map .str)
def lkT (kvs : Lits) (z : Str) : Option Lit := (kvs.find? fun q => decide (q.1 = z)).map (·.2)
theorem strs_ok : ∀ {us : List Value} {xs : List Str}, strsB us xs = true → Vals (xs.map V.str) us
  | [], [], _ => .nil
  | [], _ :: _, h => by cases h
  | u :: us, [], h => by simp [strsB] at h
  | u :: us, x :: xs, h => by
    cases u <;> first | (simp [strsB] at h; done) | skip
    rename_i y t
    obtain ⟨h1, h2⟩ := He.ba (show (decide (y = x) && strsB us xs) = true from h)
    have e := of_decide_eq_true h1
    subst e
    exact .cons ⟨t, rfl⟩ (strs_ok h2)
theorem tup_ok {K : PySem.W.Frag} {a : Addr} {xs : List Str} (h : tupB K a xs = true) : ∀ B, Fz K B (.ref a) (.tuple (xs.map .str)) := by
  intro B
  unfold tupB at h
  cases q : K.lookup a with
  | none =>
    rw [q] at h
    cases h
  | some o =>
    obtain ⟨oc, od, dt, osl⟩ := o
    rw [q] at h
    cases oc with
    | type c =>
      cases dt with
      | seq its n =>
        obtain ⟨h1, h2⟩ := He.ba (show (decide (c = "tuple") && (decide (its.size ≤ 1000) && strsB its.toList xs)) = true from h)
        obtain ⟨h3, h4⟩ := He.ba h2
        have e := of_decide_eq_true h1
        subst e
        exact .tup (.inr ⟨_, its, n, q, rfl, rfl, line_of (Nat.le_trans (of_decide_eq_true h3) (by decide)), strs_ok h4⟩) (FzA.strs xs)
      | _ => cases h
    | _ => cases h
theorem lit_ok {K : PySem.W.Frag} {l : Lit} {u : Value} (h : litB K l u = true) : ∃ v, RelV v u ∧ ∀ B, Fz K B v (litD K l) := by
  cases l with
  | int i =>
    cases u <;> first | (cases h; done) | skip
    rename_i j t
    have e := of_decide_eq_true (show decide (i = j) = true from h)
    subst e
    exact ⟨.int i, ⟨t, rfl⟩, fun B => .int i⟩
  | str x =>
    cases u <;> first | (cases h; done) | skip
    rename_i y t
    have e := of_decide_eq_true (show decide (x = y) = true from h)
    subst e
    exact ⟨.str x, ⟨t, rfl⟩, fun B => .str x⟩
  | name x =>
    cases u <;> first | (cases h; done) | skip
    rename_i a
    have e := of_decide_eq_true (show decide (a = He.ga K x) = true from h)
    subst e
    exact ⟨.ref _, rfl, fun B => .ref _⟩
  | tup xs =>
    cases u <;> first | (cases h; done) | skip
    exact ⟨.ref _, rfl, tup_ok h⟩
/-- the dict at a is written so -/
def KTab (K : PySem.W.Frag) (w : World) (a : Addr) (kvs : Lits) : Prop := (∃ es n, KDict K w a es n) ∧ tabB K a kvs = true
theorem ent_find {K : PySem.W.Frag} {z : Str} : ∀ {es : List DictEntry} {kvs : Lits}, entB K es kvs = true → (es.any (·.refKey)) = false ∧
    (∀ l, lkT kvs z = some l → ∃ e, es.find? (·.key.isStr z) = some e ∧ litB K l e.val = true) ∧ (lkT kvs z = none → es.find? (·.key.isStr z) = none)
  | [], [], _ => ⟨rfl, fun l e => (by cases e), fun _ => rfl⟩
  | [], _ :: _, h => by cases h
  | _ :: _, [], h => by cases h
  | e :: es, q :: kvs, h => by
    have h : ((match e.key with | .str y _ => decide (y = q.1) | _ => false) && (litB K q.2 e.val && entB K es kvs)) = true := h
    obtain ⟨h1, h2⟩ := He.ba h
    obtain ⟨h3, h4⟩ := He.ba h2
    obtain ⟨i1, i2, i3⟩ := ent_find (z := z) h4
    split at h1
    · rename_i y t ek
      have ey := of_decide_eq_true h1
      have er : e.refKey = false := by
        unfold DictEntry.refKey
        rw [ek]
      have es' : e.key.isStr z = decide (q.1 = z) := by
        rw [ek]
        show (y == z) = _
        rw [ey]
        by_cases hz : q.1 = z
        · rw [decide_eq_true hz, hz]
          exact beq_self_eq_true z
        · rw [decide_eq_false hz]
          exact beq_eq_false_iff_ne.mpr hz
      refine ⟨by rw [List.any_cons, er, i1]; rfl, ?_, ?_⟩
      · intro l hl
        unfold lkT at hl
        rw [List.find?_cons] at hl ⊢
        rw [es']
        by_cases hz : q.1 = z
        · rw [decide_eq_true hz] at hl ⊢
          cases hl
          exact ⟨e, rfl, h3⟩
        · rw [decide_eq_false hz] at hl ⊢
          exact i2 l hl
      · intro hl
        unfold lkT at hl
        rw [List.find?_cons] at hl ⊢
        rw [es']
        by_cases hz : q.1 = z
        · rw [decide_eq_true hz] at hl
          cases hl
        · rw [decide_eq_false hz] at hl ⊢
          exact i3 hl
    · cases h1
theorem KTab.ns {K : PySem.W.Frag} {w : World} {a : Addr} {kvs : Lits} (h : KTab K w a kvs) (z : Str) : ∃ r, PySem.W.nsIn K a z = some r ∧ r.isSome = (lkT kvs z).isSome ∧ ∀ l, lkT kvs z = some l → ∃ u, r = some u ∧ litB K l u = true := by
  obtain ⟨⟨es, n, D⟩, ht⟩ := h
  unfold tabB at ht
  rw [D.at_] at ht
  obtain ⟨h1, h2, h3⟩ := ent_find (z := z) (show entB K es.toList kvs = true from ht)
  unfold PySem.W.nsIn
  rw [D.at_]
  dsimp only
  cases e : lkT kvs z with
  | none =>
    rw [h3 e, h1]
    exact ⟨none, rfl, rfl, fun l q => (by cases q)⟩
  | some l =>
    obtain ⟨en, q1, q2⟩ := h2 l e
    rw [q1]
    exact ⟨some en.val, rfl, rfl, fun l' q => (by cases q; exact ⟨_, rfl, q2⟩)⟩
/-! ### rules -/
section
variable {X : Cx} {c : Vc} {a : Addr} {kvs : Lits}
def gKin (neg : Bool) (a : Addr) (kvs : Lits) : Dt → Dt → Option Dt
  | .str z, .ref b => if b = a then some (.bool (if neg then !(lkT kvs z).isSome else (lkT kvs z).isSome)) else none
  | _, _ => none
theorem oKin (h : KTab X.K X.w a kvs) : OpV X (compareOp .In) (gKin false a kvs) := by
  obtain ⟨es, n, D⟩ := h.1
  refine ⟨_, op_in_kd D, fun B H v u x y d Q bh hx hy hd k => ?_⟩
  unfold gKin at hd
  split at hd
  · rename_i z b
    split at hd
    · rename_i e
      subst e
      cases hx.str
      cases hy.rf
      cases hd
      obtain ⟨r, h1, h2, _⟩ := h.ns z
      refine ⟨z, r, rfl, rfl, h1, ?_⟩
      rw [h2]
      exact k _ B H (Gr.refl bh) (.bl _)
    · cases hd
  · cases hd
theorem oKni (h : KTab X.K X.w a kvs) : OpV X (compareOp .NotIn) (gKin true a kvs) := by
  obtain ⟨es, n, D⟩ := h.1
  refine ⟨_, op_notIn_kd D, fun B H v u x y d Q bh hx hy hd k => ?_⟩
  unfold gKin at hd
  split at hd
  · rename_i z b
    split at hd
    · rename_i e
      subst e
      cases hx.str
      cases hy.rf
      cases hd
      obtain ⟨r, h1, h2, _⟩ := h.ns z
      refine ⟨z, r, rfl, rfl, h1, ?_⟩
      rw [h2]
      exact k _ B H (Gr.refl bh) (.bl _)
    · cases hd
  · cases hd
/-- d[z] -/
def gKix (K : PySem.W.Frag) (a : Addr) (kvs : Lits) : Dt → Dt → Option Dt
  | .ref b, .str z => if b = a then (lkT kvs z).map (litD K) else none
  | _, _ => none
theorem iK (h : KTab X.K X.w a kvs) : IxV X (gKix X.K a kvs) := by
  obtain ⟨es, n, D⟩ := h.1
  refine ⟨_, ix_kdict, fun B H v u x y d Q bh hx hy hd k => ?_⟩
  unfold gKix at hd
  split at hd
  · rename_i b z
    split at hd
    · rename_i e
      subst e
      cases hx.rf
      cases hy.str
      cases el : lkT kvs z with
      | none => rw [el] at hd; cases hd
      | some l =>
        rw [el] at hd
        cases hd
        obtain ⟨r, h1, _, h3⟩ := h.ns z
        obtain ⟨uu, rfl, h4⟩ := h3 l el
        obtain ⟨vv, q1, q2⟩ := lit_ok h4
        exact ⟨_, z, vv, rfl, rfl, ⟨es, n, uu, D.at_, D.lit, h1, q1⟩, k vv B H (Gr.refl bh) (q2 B)⟩
    · cases hd
  · cases hd
theorem iKn (K : PySem.W.Frag) (h : KTab K X.w a kvs) (hK : X.K = K := by rfl) : IxV X (gKix K a kvs) := by
  subst hK
  exact iK h
end
end Dv
/-! DvHook: what is known of the top: the facts by names, written dicts and tuples, classes of errors, defs with lambdas. -/
namespace Dv
open PySem PySem.Spec PyProof.Rows L2 Ts
inductive Xb where
  | xa (z : Xa)
  | exm (x y : Str) (b : Bool)
  | tab (x : Str) (kvs : Lits)
  | tup (x : Str) (xs : List Str)
  | apart (ps : List He.Defn)
def Xb.ok (K : PySem.W.Frag) : Xb → Bool
  | .xa z => z.ok K
  | .exm x y b => decide (PySem.W.exmOne K (.ref (He.ga K x)) (.ref (He.ga K y)) = some b)
  | .tab x kvs => tabB K (He.ga K x) kvs
  | .tup x xs => tupB K (He.ga K x) xs
  | .apart ps => decide (ps.map fun p => (He.cT K p).2).Nodup
abbrev xbOk (xb : List Xb) (K : PySem.W.Frag) : Bool := xb.all fun x => x.ok K
structure Tw (fa : List He.Fa) (fn : List He.DefD) (ts : List He.Tab) (xb : List Xb) (w : World) (K : PySem.W.Frag) (mg : Str → Option Value) : Prop extends Tx fa fn K mg where
  tabs : He.SaysT fa fn ts w K
  xs : xbOk xb K = true
section
variable {fa : List He.Fa} {fn : List He.DefD} {ts : List He.Tab} {tf : List He.Defn} {xb : List Xb} {w : World} {K : PySem.W.Frag} {mg : Str → Option Value} {h : Heap}
theorem ty_of (X : K.In h) (G : h.Ns mainGlobals mg) (c : He.SaysX fa fn ts tf (xbOk xb) w h K) : Tw fa fn ts xb w K mg :=
  { tx_of X G c.t.d with tabs := c.t, xs := c.more }
theorem Tw.x (T : Tw fa fn ts xb w K mg) (i : Nat) {f : Xb} (h : xb[i]? = some f := by rfl) : f.ok K = true :=
  List.all_eq_true.mp T.xs f (List.mem_of_getElem? h)
theorem Tw.tab (T : Tw fa fn ts xb w K mg) (i j : Nat) {x : Str} {kvs : Lits} {ks : List Str} (h : xb[i]? = some (.tab x kvs) := by rfl) (h2 : ts[j]? = some (fun K => He.ga K x, ks) := by rfl) : KTab K w (He.ga K x) kvs :=
  ⟨T.tabs.tab j h2, T.x i h⟩
theorem Tw.tup (T : Tw fa fn ts xb w K mg) (i : Nat) {x : Str} {xs : List Str} (h : xb[i]? = some (.tup x xs) := by rfl) (B : Hp) : Fz K B (.ref (He.ga K x)) (.tuple (xs.map .str)) := tup_ok (T.x i h) B
theorem Tw.apart (T : Tw fa fn ts xb w K mg) (i : Nat) {ps : List He.Defn} (h : xb[i]? = some (.apart ps) := by rfl) : (ps.map fun p => (He.cT K p).2).Nodup := of_decide_eq_true (T.x i h)
theorem Tw.exm (T : Tw fa fn ts xb w K mg) (i : Nat) {x y : Str} {b : Bool} (h : xb[i]? = some (.exm x y b) := by rfl) : PySem.W.exmOne K (.ref (He.ga K x)) (.ref (He.ga K y)) = some b := of_decide_eq_true (T.x i h)
theorem Tw.kit (T : Tw fa fn ts xb w K mg) (i : Nat) {x : Str} {S : String} {b : Bool} (h : xb[i]? = some (.xa (.kit x S b)) := by rfl) : PySem.W.kitOne K (.ref (He.ga K x)) (.type S) = some b := of_decide_eq_true (T.x i h)
theorem Tw.kio (T : Tw fa fn ts xb w K mg) (i : Nat) {x y : Str} {b : Bool} (h : xb[i]? = some (.xa (.kio x y b)) := by rfl) : PySem.W.kitOne K (.ref (He.ga K x)) (.ref (He.ga K y)) = some b := of_decide_eq_true (T.x i h)
theorem Tw.excC (T : Tw fa fn ts xb w K mg) (i : Nat) {x : Str} (h : xb[i]? = some (.xa (.excC x)) := by rfl) : ExcC K (He.ga K x) := by
  have c : XSays [Xa.excC x] K := by
    show ([Xa.excC x].all fun z => z.ok K) = true
    rw [List.all_cons, List.all_nil, Bool.and_true]
    exact T.x i h
  exact c.excC 0
end
theorem gKin_s {neg : Bool} {a : Addr} {kvs : Lits} {z : Str} : gKin neg a kvs (.str z) (.ref a) = some (.bool (if neg = true then !(lkT kvs z).isSome else (lkT kvs z).isSome)) := if_pos rfl
theorem gKix_s {K : PySem.W.Frag} {a : Addr} {kvs : Lits} {z : Str} : gKix K a kvs (.ref a) (.str z) = (lkT kvs z).map (litD K) := if_pos rfl
theorem lkT_nil {z : Str} : lkT [] z = none := rfl
theorem lkT_cons {k z : Str} {l : Lit} {kvs : Lits} : lkT ((k, l) :: kvs) z = if z = k then some l else lkT kvs z := by
  unfold lkT
  rw [List.find?_cons]
  by_cases h : k = z
  · rw [decide_eq_true h, if_pos h.symm]
    rfl
  · rw [decide_eq_false h, if_neg (fun e => h e.symm)]
theorem litD_t {K : PySem.W.Frag} {xs : List Str} : litD K (.tup xs) = .tuple (xs.map .str) := rfl
theorem litD_i {K : PySem.W.Frag} {i : Int} : litD K (.int i) = .int i := rfl
theorem litD_n {K : PySem.W.Frag} {x : Str} : litD K (.name x) = .ref (He.ga K x) := rfl
theorem isa_ok {S : String} {d : Dt} (h : tyOk d = true) : gIsa S d = some (.bool (isaD S d.py)) := if_pos h
theorem isa_i {S : String} {i : Int} : gIsa S (.int i) = some (.bool (isaD S (.int i))) := rfl
theorem isa_s {S : String} {i : Str} : gIsa S (.str i) = some (.bool (isaD S (.str i))) := rfl
theorem isa_b {S : String} {i : Bool} : gIsa S (.bool i) = some (.bool (isaD S (.bool i))) := rfl
theorem isa_n {S : String} : gIsa S .none = some (.bool (isaD S .none)) := rfl
theorem isa_t {S : String} {ds : List Dt} : gIsa S (.tuple ds) = some (.bool (isaD S (.tuple []))) := rfl
theorem isa_d {S : String} {es : Kvs} : gIsa S (.dic es) = some (.bool (isaD S (.dict []))) := rfl
theorem isa_dt {S : String} {es : List (List Key × Dt)} : gIsa S (.dct es) = some (.bool (isaD S (.dict []))) := rfl
theorem isa_l {S : String} {ds : List Dt} : gIsa S (.list ds) = some (.bool (isaD S (.list []))) := rfl
/-! ### defs with lambdas: their tables of code objects -/
def lamQ (p : He.Defn) : Str := (p.1 ++ ".<locals>.") ++ "<lambda>"
structure Tlam (tf : List He.Defn) (K : PySem.W.Frag) (mg : Str → Option Value) (base : Heap) (TL : Tbs) : Prop where
  tbs : ∀ p ∈ tf, LamX.TabB base mg (He.cT K p).1 (He.cT K p).2
  l : TL.l = tf.map fun p => ((He.cT K p).2, lamQ p)
  nd : (tf.map fun p => (He.cT K p).2).Nodup
section
variable {tf : List He.Defn} {K : PySem.W.Frag} {mg : Str → Option Value} {base : Heap} {TL : Tbs} {p : He.Defn}
theorem Tlam.tb (U : Tlam tf K mg base TL) (k : Nat) (h : tf[k]? = some p := by rfl) : LamX.TabB base mg (He.cT K p).1 (He.cT K p).2 := U.tbs p (List.mem_of_getElem? h)
theorem Tlam.mem (U : Tlam tf K mg base TL) (k : Nat) (h : tf[k]? = some p := by rfl) : ((He.cT K p).2, lamQ p) ∈ TL.l := by
  rw [U.l]
  exact List.mem_map.mpr ⟨p, List.mem_of_getElem? h, rfl⟩
theorem Tlam.uq (U : Tlam tf K mg base TL) (k : Nat) (h : tf[k]? = some p := by rfl) : ∀ q ∈ TL.l, q.1 = (He.cT K p).2 → q.2 = lamQ p := by
  rw [U.l]
  intro q m e
  obtain ⟨p', m', rfl⟩ := List.mem_map.mp m
  obtain ⟨j, hj⟩ := List.mem_iff_getElem?.mp m'
  have e1 : (tf.map fun p => (He.cT K p).2)[j]? = some (He.cT K p').2 := by rw [List.getElem?_map, hj]; rfl
  have e2 : (tf.map fun p => (He.cT K p).2)[k]? = some (He.cT K p).2 := by rw [List.getElem?_map, h]; rfl
  have hl : j < (tf.map fun p => (He.cT K p).2).length := (List.getElem?_eq_some_iff.mp e1).1
  have hjk : j = k := (List.getElem?_inj hl U.nd).mp (by rw [e1, e2]; exact congrArg some e)
  rw [hjk, h] at hj
  cases hj
  rfl
theorem Tlam.at_ (U : Tlam tf K mg base TL) (z : Hp) (ks : List (Addr × Str)) : Tlam tf K mg base ⟨TL.l, z, ks⟩ := ⟨U.tbs, U.l, U.nd⟩
end
end Dv
/-! DvDict: more of dicts by value. -/
namespace Dv
open PySem PySem.Spec PyProof.Rows L2 Ts
section
variable {X : Cx} {c : Vc} {o a b : Expr} {fo : Wt ArgV} {fk fx : Wt Dt} {apos cpos : Pos}
/-- d.get(k, x) -/
def kGO3 (h : ArgV) (kd : Dt) (P : PD) (x : Dt) (s3 : Sl) : Prop := ∃ es k, valOf s3 h = some (.dic es) ∧ kOf kd = some k ∧ P ((lookK es k).getD x) s3
def kGO2 (fx : Wt Dt) (h : ArgV) (P : PD) (E : PEr) (kd : Dt) (s2 : Sl) : Prop := fx s2 (kGO3 h kd P) E
def kGO1 (fk fx : Wt Dt) (P : PD) (E : PEr) (h : ArgV) (s1 : Sl) : Prop := (dicOf (valOf s1 h)).isSome = true ∧ fk s1 (kGO2 fx h P E) E
def wGetOr (fo : Wt ArgV) (fk fx : Wt Dt) : Wt Dt := fun s P E => fo s (kGO1 fk fx P E) E
theorem dicOf_some {x : Option Dt} (h : (dicOf x).isSome = true) : ∃ es, x = some (.dic es) := by
  unfold dicOf at h
  split at h
  · exact ⟨_, rfl⟩
  · cases h
theorem vx_dgetOr2 (hu : X.A.units + 1 < cLine) (ho : VL X c o fo) (hk : VX X c a fk) (hx : VX X c b fx) (m : M2 X o "get" apos a b cpos := by exact ⟨rfl, rfl, rfl, rfl⟩) : VX X c (.Call (.Attribute o "get" apos) [a, b] [] cpos) (wGetOr fo fk fx) := by
  obtain ⟨to, o1, o2⟩ := ho
  obtain ⟨tk, k1, k2⟩ := hk
  obtain ⟨tx, x1, x2⟩ := hx
  refine ⟨_, pe_dget2 hu o1 k1 x1 m, ?_⟩
  intro F B s σ H Q P E r hf k kx
  refine o2 F B s σ H _ _ E r hf (fun h s1 v B1 H1 p1 r1 e1 z1 => ?_) kx
  obtain ⟨hd, p1⟩ := p1
  obtain ⟨es0, he0⟩ := dicOf_some hd
  obtain ⟨ad, kvs0, rfl, hH0, _, _⟩ := (rdb_at r1 z1 he0).dic r1.bh
  refine ⟨ad, rfl, .inl ⟨kvs0, .inl hH0⟩, ?_⟩
  refine k2 F B1 s1 σ H1 _ _ E r1 p1 (fun kd s2 kv B2 H2 p2 r2 e2 z2 => ?_) kx
  refine x2 F B2 s2 σ H2 _ _ E r2 p2 (fun x s3 xv B3 H3 p3 r3 e3 z3 => ?_) kx
  obtain ⟨es, key, h1, h2, q⟩ := p3
  have e123 := Evl.Ex.trans e1 (Evl.Ex.trans e2 e3)
  obtain ⟨a', o', ea, g, _, gs, gv⟩ := dget_ok (rdb_at r3 (z1.ex (Evl.Ex.trans e2 e3)) h1) (.inl (z2.ex e3)) r3.bh h2
  cases ea
  refine ⟨o', g, ?_⟩
  cases el : lookK es key with
  | some d =>
    obtain ⟨w, rfl, zw⟩ := gv d el
    rw [el] at q
    exact k d s3 w B3 H3 q r3 e123 zw
  | none =>
    rw [el] at q
    have hsome : o'.isSome = false := by rw [gs, el]; rfl
    cases o' with
    | some w => cases hsome
    | none => exact k x s3 xv B3 H3 q r3 e123 z3
variable {s s1 s2 s3 : Sl} {P : PD} {E : PEr} {h : ArgV} {kd x : Dt}
theorem e_GO : wGetOr fo fk fx s P E = fo s (kGO1 fk fx P E) E := rfl
theorem e_GO1 : kGO1 fk fx P E h s1 = ((dicOf (valOf s1 h)).isSome = true ∧ fk s1 (kGO2 fx h P E) E) := rfl
theorem e_GO2 : kGO2 fx h P E kd s2 = fx s2 (kGO3 h kd P) E := rfl
def kGO5 (P : PD) (x : Dt) (s3 : Sl) (es : Kvs) (k : Key) : Prop := P ((lookK es k).getD x) s3
def kGO4 (kd : Dt) (P : PD) (x : Dt) (s3 : Sl) (es : Kvs) : Prop := bO (kOf kd) (kGO5 P x s3 es)
theorem e_GO3 : kGO3 h kd P x s3 = bO (dicOf (valOf s3 h)) (kGO4 kd P x s3) := by
  rw [dicOf_eq]
  apply propext
  constructor
  · rintro ⟨es, k, h1, h2, q⟩
    exact ⟨es, h1, k, h2, q⟩
  · rintro ⟨es, h1, k, h2, q⟩
    exact ⟨es, k, h1, h2, q⟩
theorem e_GO4 {es : Kvs} : kGO4 kd P x s3 es = bO (kOf kd) (kGO5 P x s3 es) := rfl
theorem e_GO5 {es : Kvs} {k : Key} : kGO5 P x s3 es k = P ((lookK es k).getD x) s3 := rfl
theorem kOf_str {x : Str} : kOf (.str x) = some (.inr x) := rfl
theorem kOf_int {x : Int} : kOf (.int x) = some (.inl x) := rfl
theorem gDGet_d {es : Kvs} : gDGet (.dic es) kd = (kOf kd).bind (lookK es) := rfl
theorem gDIn_d {neg : Bool} {es : Kvs} : gDIn neg kd (.dic es) = (kOf kd).map fun k => .bool (if neg then !(lookK es k).isSome else (lookK es k).isSome) := rfl
theorem lk_nil {k : Key} : lookK [] k = none := rfl
theorem lk_cons {k j : Key} {d : Dt} {es : Kvs} : lookK ((k, d) :: es) j = if k = j then some d else lookK es j := by
  unfold lookK
  rw [List.find?_cons]
  by_cases h : k = j
  · rw [decide_eq_true h, if_pos h]
    rfl
  · rw [decide_eq_false h, if_neg h]
theorem put_new {es : Kvs} {k : Key} {d : Dt} (h : k ∉ es.map (·.1)) : putKD es k d = es ++ [(k, d)] := by
  unfold putKD
  rw [if_neg]
  intro z
  obtain ⟨q, m, e⟩ := List.any_eq_true.mp z
  exact h (List.mem_map.mpr ⟨q, m, of_decide_eq_true e⟩)
theorem merge_app : ∀ {more es : Kvs}, (es.map (·.1) ++ more.map (·.1)).Nodup → mergeKD es more = es ++ more
  | [], es, _ => (List.append_nil es).symm
  | (k, d) :: more, es, h => by
    have h1 : k ∉ es.map (·.1) := fun m => (List.nodup_append.mp h).2.2 k m k (by simp) rfl
    show mergeKD (putKD es k d) more = _
    rw [put_new h1, merge_app (by
      rw [List.map_append, List.append_assoc]
      exact h)]
    rw [List.append_assoc]
    rfl
theorem merge_nd {es : Kvs} (h : (es.map (·.1)).Nodup) : mergeKD [] es = es := merge_app (es := []) h
/-- x, y = e, e2 at once: both frozen -/
def kPar (i j : Nat) (V : VEnds) (ds : List Dt) (s1 : Sl) : Prop := ∃ d d2, ds = [d, d2] ∧ V.nx ((s1.set i (some d)).set j (some d2))
def sPar (i j : Nat) (fl : Wt (List Dt)) : Ws := fun s V => fl s (kPar i j V) V.er
theorem vs_par {i j : Nat} {st : Stmt} {es : List Expr} {fl : Wt (List Dt)} (ha : VA X c es fl) (h : ∀ {t : TA}, PA X es t → PS X st (tPar i j t)) (ho : c.o i = false := by rfl) (hi : c.io.contains i = false := by rfl) (ho2 : c.o j = false := by rfl) (hi2 : c.io.contains j = false := by rfl) : VS X c st (sPar i j fl) := by
  obtain ⟨ta, a1, a2⟩ := ha
  refine ⟨_, h a1, ?_⟩
  intro F B s σ H D V r hf k
  refine a2 F B s σ H _ _ _ r hf (fun ds s1 vs B1 H1 p1 r1 e1 z1 => ?_) (k.er σ)
  obtain ⟨d, d2, rfl, q⟩ := p1
  cases z1 with
  | cons z t =>
    cases t with
    | cons z2 t =>
      cases t
      exact ⟨_, _, rfl, k.nx _ _ _ _ q ((r1.setF z ho hi).setF z2 ho2 hi2) e1⟩
theorem e_Par {i j : Nat} {fl : Wt (List Dt)} {V : VEnds} : sPar i j fl s V = fl s (kPar i j V) V.er := rfl
theorem e_kPar {i j : Nat} {V : VEnds} {d d2 : Dt} : kPar i j V [d, d2] s1 = V.nx ((s1.set i (some d)).set j (some d2)) := by
  apply propext
  constructor
  · rintro ⟨_, _, e, h⟩
    cases e
    exact h
  · intro h
    exact ⟨d, d2, rfl, h⟩
end
end Dv
/-! DvErr: errors that are held, by value: try, isinstance. -/
namespace Dv
open PySem PySem.Spec PyProof.Rows L2 Ts
/-- isinstance(an error that is held, a class) -/
def rIsEr (K : PySem.W.Frag) : List V → Hp → VK → Prop := fun xs H Q => ∃ (a : Addr) (n : Str) (cl : V) (cv : Value) (b : Bool), xs = [.ref a, cl] ∧ H a = some (ErrO K n a) ∧ ExcC K (He.ga K n) ∧ (∀ u, RelV cl u → u = cv) ∧
  PySem.W.kitOne K (.ref (He.ga K n)) cv = some b ∧ Q (.bl b) H
theorem call_isEr {X : Cx} : CallR X (.builtin "isinstance") (rIsEr X.K) := by
  intro pins s σ H xs us Q I r h
  obtain ⟨a, n, cl, cv, b, rfl, hH, C, hcv, e, q⟩ := h
  cases r with
  | cons rx rr =>
    cases rr with
    | cons rt rr =>
      cases rr
      cases rx
      have ec := hcv _ rt
      subst ec
      obtain ⟨⟨oe, vs, hget, hz, hv⟩, _, _⟩ := I.hok a _ hH
      have J : PySem.W.InstAt s.heap a oe (He.ga X.K n) none := by
        obtain ⟨oc, od, oda, osl⟩ := oe
        obtain ⟨h1, h2⟩ := hz
        dsimp only at h1 h2 hv
        subst h1 h2 hv
        exact ⟨hget, rfl, rfl, trivial⟩
      exact PySem.W.kia_one (PySem.W.handS_kitx_exc C.hg C.hk C.hs C.hd C.ha C.hn C.ht C.hm)
        I.kIn J e (fun z => nomatch z) fun tk => ⟨.bl b, H, I.kept (t' := tk) fun _ _ z => z, rfl, q⟩
/-- what is known of classes of errors: their isinstance by a class -/
def KitT (K : PySem.W.Frag) (cv : Value) (tab : List (Str × Bool)) : Prop := ∀ n b, tab.lookup n = some b → ExcC K (He.ga K n) ∧ PySem.W.kitOne K (.ref (He.ga K n)) cv = some b
def gIsEr (tab : List (Str × Bool)) : Dt → Option Dt
  | .err n => (tab.lookup n).map .bool
  | _ => none
section
variable {X : Cx} {c : Vc} {a y : Expr} {fa : Wt Dt} {tab : List (Str × Bool)} {cl : V} {cv : Value} {p pos : Pos}
theorem vx_isEr (hk : KitT X.K cv tab) (hy : PE X y (tC cl)) (hcl : ∀ u, RelV cl u → u = cv) (hm : X.mg "isinstance" = none) (ha : VX X c a fa) (hg : Gl X "isinstance" := by rfl)
    (h1 : starEach [a, y] X.env = (false, eval a X.env) :: starEach [y] X.env := by rfl) (h2 : starEach [y] X.env = [(false, eval y X.env)] := by rfl)
    (h3 : (backTo pos (starEach [y] X.env)).any (·.1) = false := by rfl) : VX X c (.Call (.Name "isinstance" p) [a, y] [] pos) (wUn (gIsEr tab) fa) := by
  obtain ⟨ta, a1, a2⟩ := ha
  refine ⟨_, pe_callB call_isEr hg hm (by decide +kernel) (pa_cons a1 (pa_cons hy pa_nil h2) h1) (by decide) (by decide) h1 h3, ?_⟩
  intro F B s σ H Q P E rr hf k kx
  refine a2 F B s σ H _ _ E rr hf (fun x s1 v B1 H1 p1 r1 e1 z1 => ?_) kx
  obtain ⟨d, hgv, q⟩ := p1
  cases x with
  | err n =>
    have hgv : (tab.lookup n).map Dt.bool = some d := hgv
    cases el : tab.lookup n with
    | none => rw [el] at hgv; cases hgv
    | some b =>
      rw [el] at hgv
      cases hgv
      obtain ⟨C, kt⟩ := hk n b el
      cases z1 with
      | err hB => exact ⟨_, n, cl, cv, b, rfl, r1.bh _ _ hB, C, hcl, kt, k _ s1 _ B1 H1 q r1 e1 (.bl b)⟩
  | _ => cases hgv
end
end Dv
namespace Dv
open PySem PySem.Spec PyProof.Rows L2 Ts
/-! ### try: .. except X as e: y = e, and what stands behind it -/
def rS (K : PySem.W.Frag) (c : Vc) (f : Ws) : TS := fun D σ H => ∃ F B s V, SR K c F B s σ H [] ∧ f s V ∧ PostS K c F B V D
theorem VSs.can {X : Cx} {c : Vc} {sts : List Stmt} {f : Ws} (h : VSs X c sts f) : PSs X sts (rS X.K c f) := by
  obtain ⟨ts, h1, h2⟩ := h
  refine ⟨fun pins s σ H D I q => h1.run pins s σ H D I ?_⟩
  obtain ⟨F, B, s', V, r, hf, k⟩ := q
  exact h2 F B s' σ H D V r hf k
theorem SR.rebase {K : PySem.W.Frag} {c : Vc} {F : Frm} {B H : Hp} {s : Sl} {σ : L2.St} {T : List Addr} (r : SR K c F B s σ H T) : SR K c { F with B0 := B } B s σ H T :=
  ⟨r.len, r.bh, Evl.Ex.refl _, fun _ _ _ => rfl, r.th, r.fr, r.io, r.a0, r.tb, r.tmp, r.sl, r.ow, r.dj, r.cl⟩
theorem SR.unbase {K : PySem.W.Frag} {c c' : Vc} {F : Frm} {B H B' H' : Hp} {s s' : Sl} {σ σ' : L2.St} {T T' : List Addr} (r : SR K c F B s σ H T) (r' : SR K c' { F with B0 := B } B' s' σ' H' T') : SR K c' F B' s' σ' H' T' :=
  ⟨r'.len, r'.bh, Evl.Ex.trans r.eb r'.eb, fun a h n => (r'.b0 a h n).trans (r.b0 a h n), r'.th, r'.fr, r'.io, r'.a0, r'.tb, r'.tmp, r'.sl, r'.ow, r'.dj, r'.cl⟩
abbrev Vc.by (c : Vc) (W : WX) : Vc := { c with W := W }
def tryV (tab : List (Str × Bool)) (ie iy : Nat) (f0 : Ws) (V : VEnds) : VEnds := ⟨fun s' => f0 s' V, V.rt, V.bk, V.ct, fun n s' => ∃ b, tab.lookup n = some b ∧ if b = true then f0 ((s'.set ie none).set iy (some (.err n))) V else V.er n s'⟩
def sTry (tab : List (Str × Bool)) (ie iy : Nat) (fb f0 : Ws) : Ws := fun s V => fb s (tryV tab ie iy f0 V)
def ExmT (K : PySem.W.Frag) (cs : Value) (tab : List (Str × Bool)) : Prop := ∀ n b, tab.lookup n = some b → PySem.W.exmOne K (.ref (He.ga K n)) cs = some b
theorem vss_try {X : Cx} {c : Vc} {x n : Str} {cs : Value} {ie iy : Nat} {body suite rest : List Stmt} {b0 : Stmt} {np pos pos2 : Pos} {fb f0 : Ws} {tab : List (Str × Bool)}
    (hs : X.stack = X.env :: X.outer) (hf : X.env.frame = some X.env.locals) (hN : X.N.Nodup) (hi : X.N[ie]? = some n) (hln : X.env.kindOf n = some .local) (hc : Names X x cs) (tk : Takes X c.W) (ht : ExmT X.K cs tab)
    (hb : ∀ (W : WX) (pn : List (Addr × Obj)) (xe : Value → Shared → Prop), Takes (X.tr pn xe) W → PassesOwn (model X.prog X.w) X.A X.env xe → VSs (X.tr pn xe) (c.by W) body fb)
    (hsu : ∀ (a : Addr) (oe : Obj) (pn : List (Addr × Obj)), PSs (X.suite a ((a, oe) :: pn)) (b0 :: suite) (tAsg (tVar ie) (gName iy))) (h0 : VSs X c rest f0)
    (hne : ie ≠ iy) (hle : ie < X.N.length) (ho : c.o iy = false) (hio : c.io.contains iy = false) (hio2 : c.io.contains ie = false) :
    VSs X c (.Try body [.ExceptHandler (some (.Name x np)) (some n) (b0 :: suite) pos2] [] [] pos :: rest) (sTry tab ie iy fb f0) := by
  obtain ⟨t0, p0, d0⟩ := h0
  refine ⟨_, pss_tryV (tb := fun W => rS X.K (c.by W) fb) (ts := fun _ _ _ => tAsg (tVar ie) (gName iy)) (Wout := c.W) hs hf hN hi hln hc tk (fun W pn xe tk' ps => (hb W pn xe tk' ps).can) (fun a oe cls d pn _ _ => hsu a oe pn) p0, ?_⟩
  intro F B s σ H D V r hfs k
  refine ⟨{ F with B0 := B }, B, s, _, (r.rebase).ctx rfl rfl rfl, hfs, fun s' σ' B' H' q r' e => ?_, fun d s' σ' v B' H' q r' e z => k.rt _ _ _ _ _ _ q ((r.unbase r').ctx rfl rfl rfl) e z, fun s' σ' B' H' q r' e => k.bk _ _ _ _ q ((r.unbase r').ctx rfl rfl rfl) e, fun s' σ' B' H' q r' e => k.ct _ _ _ _ q ((r.unbase r').ctx rfl rfl rfl) e, fun σ' m s' B' H' q r' => ?_⟩
  · exact d0 F B' s' σ' H' D V ((r.unbase r').ctx rfl rfl rfl) q (k.ex e)
  · obtain ⟨b, hb1, hq⟩ := q
    have e := r'.eb
    have r2 : SR X.K c F B' s' σ' H' [] := (r.unbase r').ctx rfl rfl rfl
    refine ⟨b, ht m b hb1, fun hbt a ha hlen => ?_, fun hbf => ?_⟩
    · rw [if_pos hbt] at hq
      obtain ⟨r3, e3⟩ := r2.laid (o := ErrO X.K m a) ha
      have hnio : ie ∉ c.io := fun m => by rw [List.contains_iff_mem.mpr m] at hio2; cases hio2
      have r4 : SR X.K c F (upd B' a (ErrO X.K m a)) (s'.set ie none) (σ'.set ie none) (upd H' a (ErrO X.K m a)) [] :=
        r3.sig (List.length_set ..) (List.length_set ..) (fun j d q => ⟨(set_none q).2, List.getElem?_set_ne (Ne.symm (set_none q).1)⟩) (fun i mi => List.getElem?_set_ne fun z => hnio (by rw [z]; exact mi)) fun _ _ q => q
      have r5 := r4.setF (v := L2.V.ref a) (d := .err m) (.err upd_same) ho hio
      have eσ : ((σ'.set ie (some (L2.V.ref a))).set iy (some (L2.V.ref a))).set ie none = (σ'.set ie none).set iy (some (L2.V.ref a)) := by
        rw [List.set_comm _ _ hne, List.set_set, List.set_comm _ _ hne]
      refine ⟨.ref a, List.getElem?_set_self hlen, m, rfl, rfl, ?_⟩
      show t0 D (((σ'.set ie (some (L2.V.ref a))).set iy (some (L2.V.ref a))).set ie none) _
      rw [eσ]
      exact d0 F _ _ _ _ D V r5 hq (k.ex (Evl.Ex.trans e e3))
    · rw [if_neg (by rw [hbf]; decide)] at hq
      exact k.er σ' m s' B' H' hq r2
end Dv
namespace Dv
open PySem PySem.Spec PyProof.Rows L2 Ts
/-! ### the facts, one class after the other -/
theorem exmT_nil {K : PySem.W.Frag} {cs : Value} : ExmT K cs [] := fun _ _ h => by cases h
theorem exmT_cons {K : PySem.W.Frag} {cs : Value} {x : Str} {b : Bool} {tab : List (Str × Bool)} (h : PySem.W.exmOne K (.ref (He.ga K x)) cs = some b) (t : ExmT K cs tab) : ExmT K cs ((x, b) :: tab) := fun n b' e => by
  rw [List.lookup_cons] at e
  cases q : n == x with
  | true =>
    rw [q] at e
    cases e
    rw [beq_iff_eq.mp q]
    exact h
  | false =>
    rw [q] at e
    exact t n b' e
theorem kitT_nil {K : PySem.W.Frag} {cs : Value} : KitT K cs [] := fun _ _ h => by cases h
theorem kitT_cons {K : PySem.W.Frag} {cs : Value} {x : Str} {b : Bool} {tab : List (Str × Bool)} (c : ExcC K (He.ga K x)) (h : PySem.W.kitOne K (.ref (He.ga K x)) cs = some b) (t : KitT K cs tab) : KitT K cs ((x, b) :: tab) := fun n b' e => by
  rw [List.lookup_cons] at e
  cases q : n == x with
  | true =>
    rw [q] at e
    cases e
    rw [beq_iff_eq.mp q]
    exact ⟨c, h⟩
  | false =>
    rw [q] at e
    exact t n b' e
/-! ### reading -/
section
variable {tab : List (Str × Bool)} {ie iy : Nat} {fb f0 : Ws} {s : Sl} {V : VEnds} {n x : Str} {b : Bool}
def kTr (ie iy : Nat) (f0 : Ws) (V : VEnds) (n : Str) (s : Sl) (b : Bool) : Prop := if b = true then f0 ((s.set ie none).set iy (some (.err n))) V else V.er n s
theorem e_Try : sTry tab ie iy fb f0 s V = fb s (tryV tab ie iy f0 V) := rfl
theorem e_trnx : (tryV tab ie iy f0 V).nx s = f0 s V := rfl
theorem e_trrt : (tryV tab ie iy f0 V).rt = V.rt := rfl
theorem e_trbk : (tryV tab ie iy f0 V).bk = V.bk := rfl
theorem e_trct : (tryV tab ie iy f0 V).ct = V.ct := rfl
theorem e_trer : (tryV tab ie iy f0 V).er n s = bO (tab.lookup n) (kTr ie iy f0 V n s) := rfl
theorem e_kTr : kTr ie iy f0 V n s b = if b = true then f0 ((s.set ie none).set iy (some (.err n))) V else V.er n s := rfl
theorem lkB_nil : ([] : List (Str × Bool)).lookup n = none := rfl
theorem lkB_cons : ((x, b) :: tab).lookup n = if n = x then some b else tab.lookup n := by
  rw [List.lookup_cons]
  by_cases h : n = x
  · rw [if_pos h, beq_iff_eq.mpr h]
  · rw [if_neg h]
    cases q : n == x with
    | true => exact absurd (beq_iff_eq.mp q) h
    | false => rfl
theorem isEr_e : gIsEr tab (.err n) = (tab.lookup n).map .bool := rfl
end
end Dv
/-! DvLam: a lambda without parameters that is handed to a def, where no repr guard runs. -/
namespace Dv
open PySem PySem.Spec PyProof.Rows L2 Ts
section
variable {X : Cx} {pins : List (Addr × Obj)} {σ : L2.St} {H : Hp} {s : Shared}
/-- a() in the def that got it -/
theorem act_ok {d : He.DefD} {Ng : List Str} {cdg pm ctv : Value} {f c' : Addr} {params : Arguments} {body : Expr} {scope : Scope} {k i : Nat} {a : Str} {pn : List (Addr × Obj)} {xe : Value → Shared → Prop} {W : WX} {Eg : XK} {t : XK → TE} {p1 p2 : Pos}
    (I : Inv X pins σ H s) (L : LamX.LamS X.env.scope scope)
    (hf : s.heap.get? f = some (PySem.W.kla_obj "<lambda>" (X.env.qual ++ "<lambda>") params body scope (cloFrom X.env.cells scope.names []) pm c' ctv)) (hfn : H f = none) (hfr : f ∉ frs X.stack)
    (hbind : bindArgs (PySem.W.kla_fn "<lambda>" (X.env.qual ++ "<lambda>") params body scope (cloFrom X.env.cells scope.names []) pm (.ref c') ctv) ⟨[], []⟩ = pure [])
    (tk : Takes ((bodyCx X.prog X.w X.K X.mg X.base Ng d cdg X.A X.stack s H Eg).tr pn xe) W)
    (hr : GRoom (k + 1) (X.A.deeper (envOfC d.qual d.scope s.heap.objs.size (He.fAd X.K d.at_) cdg)))
    (hbody : ∀ (E : XK) (A : Around) (outer : List Env) (s : Shared) (H : Hp), GRoom k (A.deeper (LamX.lamEnv X scope s.heap.objs.size f c')) → PE (LamX.lamCx X A outer s H E scope f c') body (t E))
    (hN : Ng[i]? = some a) (hv : Vis d.scope a) (hd : (a == ("__debug__" : Str)) = false) (hcd : (a == ("__classdict__" : Str)) = false) :
    PE ((bodyCx X.prog X.w X.K X.mg X.base Ng d cdg X.A X.stack s H Eg).tr pn xe) (.Call (.Name a p1) [] [] p2)
      (fun σZ HZ Q => σZ[i]? = some (some (.ref f)) ∧ HZ c' = some (LamX.CodeO c' (X.env.qual ++ "<lambda>")) ∧ t (WE W σZ) σ HZ Q) := by
  constructor
  intro pinsZ sZ σZ HZ Q IZ h
  obtain ⟨hs, hc, ht⟩ := h
  have look := (pe_var (pos := p1) (i := i) hN hv hd hcd).run pinsZ sZ σZ HZ (fun v H1 => v = .ref f ∧ H1 = HZ) IZ ⟨.ref f, hs, rfl, rfl⟩
  refine wpAny_Call_Name_kw (thn look fun u s1 q0 => ?_)
  obtain ⟨v, H1, I1, r1, ev, eH⟩ := q0
  subst ev eH
  have eu : u = Value.ref f := r1
  subst eu
  have of1 := I1.base.keep f _ hf hfn hfr (fun z => nomatch (show f ∈ ([] : List Addr) from z))
  have un : Un (frs X.stack) [] H H1 s.heap s1.heap := I1.base
  refine PySem.W.callWith_F0 ⟨_, _, _, _, of1⟩ ?_
  obtain ⟨⟨oc, vs, t', hoc, hdc, hvc⟩, _, _⟩ := I1.hok c' _ hc
  have rc : codeAny (model X.prog X.w) (X.A.deeper (envOfC d.qual d.scope s.heap.objs.size (He.fAd X.K d.at_) cdg)) (.call (.ref f) ⟨[], []⟩)
      (CR (L2.CX X.prog X.w) (envOfC d.qual d.scope s.heap.objs.size (He.fAd X.K d.at_) cdg :: X.stack) X.prog X.w H1 s1 Q (WE W σZ)) s1 := by
    refine PySem.W.kla_callFunE hr.rm.depth of1 rfl L.co L.gen rfl ⟨c', oc, vs, t', rfl, hoc, hdc, hvc⟩ ?_
    rw [hbind]
    refine wpAny_pure (wpAny_newFunctionEnv (fun y hy => (L.own y hy).2) (fun y hy => absurd hy (by simp)) (fun h2 hns hsb => ?_) L.kind)
    refine ⟨I1.nolimit.fresh _ hsb, ?_⟩
    have kp : ∀ b o, s1.heap.get? b = some o → h2.get? b = some o := by
      intro b o e
      exact hsb.extBut b o (Nat.ne_of_lt (Heap.lt_size e)) (Heap.get?_push_of_some _ e)
    have J := LamX.lam_start2 (X := X) (E := WE W σZ) (c' := c') (f := f) (tk := s1.toks + ([] : List (Str × Value)).length) I L I1.env0 hr.rm.hd un hns kp
    refine PySem.W.kla_codeExpr (wpAny_mono ((hbody _ _ _ s1 H1 (hr.deeper _)).run [] _ _ H1 Q J ht) (fun v s' hq => ?_) fun e s' hq => hq)
    obtain ⟨w', H', J', rv, q⟩ := hq
    exact ⟨w', H', J'.os, J'.bare, J'.base, J'.hok, rv, q⟩
  refine wpAny_call (codeAny_mono rc fun r s' hq => ?_)
  match r, hq with
  | .error e, hq => exact passAt tk σZ pinsZ H1 s1 e s' I1 hq
  | .ok (.ret u), hq => exact I1.after hq
/-- what the def at d makes of a() -/
def Gives (X : Cx) (d : He.DefD) (Ng : List Str) (a : Str) (k : Nat) (TT : (XK → Hp → VK → Prop) → Hp → VK → Prop) : Prop :=
  ∀ (cdg : Value) (f c' : Addr) (s : Shared) (H : Hp) (Q : VK) (tl : XK → Hp → VK → Prop),
    GRoom k (X.A.deeper (envOfC d.qual d.scope s.heap.objs.size (He.fAd X.K d.at_) cdg)) →
    (∀ (W : WX) (pn : List (Addr × Obj)) (xe : Value → Shared → Prop) (p1 p2 : Pos), Takes ((bodyCx X.prog X.w X.K X.mg X.base Ng d cdg X.A X.stack s H fun _ _ _ => False).tr pn xe) W →
      PE ((bodyCx X.prog X.w X.K X.mg X.base Ng d cdg X.A X.stack s H fun _ _ _ => False).tr pn xe) (.Call (.Name a p1) [] [] p2)
        (fun σZ HZ Q => σZ[0]? = some (some (.ref f)) ∧ HZ c' = some (LamX.CodeO c' (X.env.qual ++ "<lambda>")) ∧ tl (WE W σZ) HZ Q)) →
    H c' = some (LamX.CodeO c' (X.env.qual ++ "<lambda>")) → TT tl H Q →
    ∃ t, PSs (bodyCx X.prog X.w X.K X.mg X.base Ng d cdg X.A X.stack s H fun _ _ _ => False) d.body t ∧ t { nx := fun _ H' => Q .non H', rt := Q } (L2.start Ng [.ref f]) H
/-- the def's name called with a lambda -/
theorem lam_call {T : List (Addr × Str)} {TT : (XK → Hp → VK → Prop) → Hp → VK → Prop} {x a : Str} {d : He.DefD} {fd : FuncData} {Ng : List Str} {c P : Addr} {k : Nat}
    {params : Arguments} {body : Expr} {scope : Scope} {t : XK → TE} {p lpos pos : Pos}
    (F : FunD X.K d.name d.qual d.params d.body d.scope [] [] (He.fAd X.K d.at_) fd) (S : FnScope Ng [a] d.scope) (hb : BindsP [a] d) (hm : X.mg x = some (.ref (He.fAd X.K d.at_))) (hN : Ng[0]? = some a) (hv : Vis d.scope a)
    (hG : Gives X d Ng a (k + 1) TT) (TB : LamX.TabB X.base X.mg c P) (hcode : X.env.code = .ref c) (hmT : (P, X.env.qual ++ "<lambda>") ∈ T) (hu : ∀ q ∈ T, q.1 = P → q.2 = X.env.qual ++ "<lambda>")
    (hr : GRoom (k + 2) X.A) (L : LamX.LamS X.env.scope scope) (hdef : defaultsOf params X.env = ([], []))
    (hbind : ∀ (q : Str) (cl : List (Str × Addr)) (pm cv ctv : Value), bindArgs (PySem.W.kla_fn "<lambda>" q params body scope cl pm cv ctv) ⟨[], []⟩ = pure [])
    (hbody : ∀ (E : XK) (A : Around) (outer : List Env) (s : Shared) (H : Hp) (f c' : Addr), GRoom k (A.deeper (LamX.lamEnv X scope s.heap.objs.size f c')) → PE (LamX.lamCx X A outer s H E scope f c') body (t E))
    (hg : Gl X x) (hdb : (x == ("__debug__" : Str)) = false) (hd : (a == ("__debug__" : Str)) = false) (hcd : (a == ("__classdict__" : Str)) = false) :
    PE X (.Call (.Name x p) [.Lambda params body scope lpos] [] pos) (fun σ H Q => LamX.Tabs T H ∧ ∀ H1, LamX.ExtN H H1 → LamX.Tabs T H1 → TT (fun E H' Q' => t E σ H' Q') H1 Q) := by
  constructor
  intro pins s σ H Q I h
  obtain ⟨hT, h⟩ := h
  refine wpAny_Call_Name_kw (ld_glob I hg hm ?_ hdb)
  refine PySem.W.callWith_K (h₀ := X.base) I.ok.mod.kin F.kp ?_ (by rfl) (by rfl)
  show wpAny _ _ (spliced ((false, eval (.Lambda params body scope lpos) X.env) :: backTo pos (starEach [] X.env))) _ _ s
  refine Calls.spliced_cons (LamX.lam_make2 I TB hcode hmT hu hT hdef (L.has I.ok) fun f c' pm ctv H1 s1 I1 eN T1 of1 fn1 fr1 co => ?_)
  refine Calls.spliced_nil ⟨I1.kIn, ?_⟩
  have rc := run_at (us := [.ref f]) (vs := [.ref f]) (Q := Q) (E := fun _ _ _ => False) F S hb hr I1.env0 (.cons rfl .nil) rfl fun cdg _ hr2 =>
    hG cdg f c' s1 H1 Q (fun E H' Q' => t E σ H' Q') hr2 (fun W pn xe p1 p2 tk =>
      act_ok I1 L of1 fn1 fr1 (hbind _ _ _ _ _) tk hr2 (fun E A outer s H hr3 => hbody E A outer s H f c' hr3) hN hv hd hcd) co (h H1 eN T1)
  refine wpAny_call (codeAny_mono rc fun r s2 hq => ?_)
  match r, hq with
  | .error e, hq => exact pn σ pins H1 s1 e s2 I1 hq
  | .ok (.ret u), hq => exact I1.after hq
end
/-! ### by value -/
/-- what a lambda's body promises, read over the frozen slots l -/
def lamS (l : List (Option Dt)) (fb : Wt Dt) : Fs := fun _ cs P E => fb ⟨l, cs⟩ (fun d s => P d [] s.cs) fun n s => E n [] s.cs
abbrev cLam (E : XK) (T : Tbs) : Vc := ⟨fun _ => false, [], fun cls d _ H => E cls d H, T⟩
/-- a lambda's body by its reading, over tables l -/
def lamT (K : PySem.W.Frag) (l : List (Addr × Str)) (fb : Wt Dt) (E : XK) : TE := fun σ H Q => ∃ T F B s P Er, T.l = l ∧ SR K (cLam E T) F B s σ H [] ∧ fb s P Er ∧ PostE K (cLam E T) F B σ P Q ∧ PostX K (cLam E T) F σ Er
theorem lamT_of {K : PySem.W.Frag} {T : Tbs} {fb : Wt Dt} {l : List (Option Dt)} {σ : L2.St} {E : XK} {H : Hp} {Q : VK} (hl : l.length = σ.length) (hz : ∀ (i : Nat) (d : Dt), l[i]? = some (some d) → ∃ v, σ[i]? = some (some v) ∧ Fz K T.z v d)
    (q : spV K T 0 [] (lamS l fb) [] H Q E) : lamT K T.l fb E σ H Q := by
  obtain ⟨ds, cs, B, P, Er, _, ag, hS, hQ, hE⟩ := q
  have nos : ∀ i a, ¬ OS (cLam E T) ⟨l, cs⟩ σ i a := fun i a ⟨_, o, _⟩ => by cases o
  have r0 : SR K (cLam E T) (fr0 H B [] [] cs) B ⟨l, cs⟩ σ H [] := by
    refine ⟨hl, ag.bh, Evl.Ex.refl _, fun _ _ _ => rfl, fun _ h => h, fun _ _ h _ _ => h, fun i v h => ?_, fun a h => ?_, ag.tb, fun _ m => (by cases m), fun i d h => ?_, fun i a h => absurd h (nos i a), fun i j a h => absurd h (nos i a), fun a d h => ?_⟩
    · have h : (if i ∈ ([] : List Nat) then ([] : List V)[i]? else none) = some v := h
      simp at h
    · rcases h with ⟨i, m, _⟩ | ⟨d, h⟩
      · cases m
      · exact (ag.cl a d h).1.pn
    · obtain ⟨v, e, z⟩ := hz i d h
      exact ⟨v, e, .inl ⟨rfl, z.ex ag.tb.z⟩⟩
    · obtain ⟨z1, z2, _⟩ := ag.cl a d h
      exact ⟨z1, ⟨z2, .inl (.inr ⟨d, h⟩), fun m => (by cases m)⟩, fun i => nos i a⟩
  have fin : ∀ {B' s' H'}, SR K (cLam E T) (fr0 H B [] [] cs) B' s' σ H' [] → Rts K T B H [] [] cs B' H' [] s'.cs := fun {B' s' H'} r =>
    SR.rts (c := cLam E T) r (fun i m => (by cases m)) (fun i m => (by cases m)) rfl
  exact ⟨T, _, B, _, _, _, rfl, r0, hS, fun d s' v B' H' p r e z => hQ d [] s'.cs v B' H' p (fin r) z, fun n s' B' H' p r => hE n [] s'.cs B' H' p (fin r)⟩
/-- the call of what was handed in -/
def wAct (i : Nat) (f : Addr) (S : Fs) : Wt Dt := fun s P E => s.l[i]? = some (some (.ref f)) ∧ S [] s.cs (fun d _ cs' => P d ⟨s.l, cs'⟩) fun n _ cs' => E n ⟨s.l, cs'⟩
theorem spV_kept {K : PySem.W.Frag} {T : Tbs} {p : Addr × Str} {S : Fs} {H : Hp} {Q : VK} {E : XK} (q : spV K { T with k := p :: T.k } 0 [] S [] H Q E) : spV K T 0 [] S [] H Q E := by
  obtain ⟨ds, cs, B, P, Er, hl, ag, hS, hQ, hE⟩ := q
  have hp : H p.1 = some (LamX.CodeO p.1 p.2) := ag.tb.k p List.mem_cons_self
  have nc : ¬ Cha [] [] cs p.1 := fun h => by
    rcases h with ⟨i, m, _⟩ | ⟨d, h⟩
    · cases m
    · obtain ⟨o, e, n⟩ := (ag.cl _ d h).1.at_
      rw [hp] at e
      unfold LamX.CodeO at e
      cases e
      cases n
  have up : ∀ {B' H' outs cs'}, Rts K T B H [] [] cs B' H' outs cs' → Rts K { T with k := p :: T.k } B H [] [] cs B' H' outs cs' := fun {B' H' outs cs'} R =>
    ⟨R.k1, R.k2, R.k3, R.th, R.fr, ⟨R.tb.l, R.tb.z, fun x m => by
      rcases List.mem_cons.mp m with rfl | m
      · exact R.fr _ _ hp rfl nc
      · exact R.tb.k x m, R.tb.n⟩, R.len, R.outs, R.cl⟩
  exact ⟨ds, cs, B, P, Er, hl, ⟨ag.len, ag.bh, ⟨ag.tb.l, ag.tb.z, fun x m => ag.tb.k x (List.mem_cons_of_mem _ m), ag.tb.n⟩, ag.at_, ag.dj, ag.cl⟩, hS, fun d outs cs' v B' H' q R => hQ d outs cs' v B' H' q (up R), fun x outs cs' B' H' q R => hE x outs cs' B' H' q (up R)⟩
theorem vx_act {X : Cx} {c : Vc} {e : Expr} {i : Nat} {f c' : Addr} {q : Str} {tl : XK → Hp → VK → Prop} {S : Fs} {T : Tbs}
    (hp : PE X e (fun σZ HZ Q => σZ[i]? = some (some (.ref f)) ∧ HZ c' = some (LamX.CodeO c' q) ∧ tl (WE c.W σZ) HZ Q))
    (hT : c.T = { T with k := (c', q) :: T.k }) (ho : c.o i = false) (ht : ∀ E H Q, spV X.K T 0 [] S [] H Q E → tl E H Q) : VX X c e (wAct i f S) := by
  refine ⟨_, hp, ?_⟩
  intro F B s σ H Q P E r hf k kx
  obtain ⟨h1, h2⟩ := hf
  obtain ⟨v, e1, z⟩ := r.get h1 ho
  cases z
  refine ⟨e1, r.tb.k _ (by rw [hT]; exact List.mem_cons_self), ht _ _ _ (spV_kept (p := (c', q)) ?_)⟩
  rw [← hT]
  exact ⟨[], s.cs, B, _, _, rfl, r.ags0, h2, fun d outs cs' v B' H' q R z => k d _ v B' H' q (r.back0 R) R.k1 z, fun x outs cs' B' H' q R => kx x _ B' H' q (r.back0 R)⟩
/-- the promise of a def that is handed a lambda: of the lambda's promise and the cells -/
abbrev LSp := Fs → Cells → (Dt → Cells → Prop) → Prop
def LamFn (P : Program) (w : World) (K : PySem.W.Frag) (mg : Str → Option Value) (base : Heap) (d : He.DefD) (Ng : List Str) (a : Str) (k : Nat) (Sp : LSp) : Prop :=
  ∀ (cdg : Value) (A : Around) (outer : List Env) (s : Shared) (H : Hp) (T : Tbs) (f : Addr) (S : Fs), GRoom k (A.deeper (envOfC d.qual d.scope s.heap.objs.size (He.fAd K d.at_) cdg)) →
    (∀ (c : Vc) (pn : List (Addr × Obj)) (xe : Value → Shared → Prop) (p1 p2 : Pos), c.T = T → c.o 0 = false → Takes ((bodyCx P w K mg base Ng d cdg A outer s H fun _ _ _ => False).tr pn xe) c.W →
      VX ((bodyCx P w K mg base Ng d cdg A outer s H fun _ _ _ => False).tr pn xe) c (.Call (.Name a p1) [] [] p2) (wAct 0 f S)) →
    ∃ (o : Nat → Bool) (fm : Ws), o 0 = false ∧ VSs (bodyCx P w K mg base Ng d cdg A outer s H fun _ _ _ => False) ⟨o, [], fun _ _ _ _ => False, T⟩ d.body fm ∧
      ∀ cs Q, Sp S cs Q → fm ⟨st0 Ng.length [.ref f], cs⟩ (vends [] (fun d _ cs' => Q d cs') fun _ _ _ => False)
def lamTT (K : PySem.W.Frag) (Sp : LSp) : (XK → Hp → VK → Prop) → Hp → VK → Prop := fun tl H Q => ∃ (T : Tbs) (B : Hp) (cs : Cells) (S : Fs) (Pq : Dt → Cells → Prop), Ags K T B H [] [] [] cs ∧
  (∀ E H Q, spV K T 0 [] S [] H Q E → tl E H Q) ∧ Sp S cs Pq ∧ ∀ d cs' v B' H', Pq d cs' → Rts K T B H [] [] cs B' H' [] cs' → Fz K B' v d → Q v H'
theorem gives_of {X : Cx} {d : He.DefD} {Ng : List Str} {a : Str} {k : Nat} {Sp : LSp} (h : LamFn X.prog X.w X.K X.mg X.base d Ng a k Sp) (hN : 0 < Ng.length) : Gives X d Ng a k (lamTT X.K Sp) := by
  intro cdg f c' s H Q tl hr act hc ⟨T, B, cs, S, Pq, ag, ht, hS, hQ⟩
  obtain ⟨o, fm, ho, ⟨t, p, dd⟩, hm⟩ := h cdg X.A X.stack s H { T with k := (c', X.env.qual ++ "<lambda>") :: T.k } f S hr fun c pn xe p1 p2 hT ho tk => vx_act (act c.W pn xe p1 p2 tk) hT ho ht
  have tb : TbOk { T with k := (c', X.env.qual ++ "<lambda>") :: T.k } B H := ⟨ag.tb.l, ag.tb.z, fun x m => by
    rcases List.mem_cons.mp m with rfl | m
    · exact hc
    · exact ag.tb.k x m, ag.tb.n⟩
  have g0 : ∀ {i d}, (st0 Ng.length [.ref f])[i]? = some (some d) → i = 0 ∧ d = .ref f := fun {i d} q => by
    have q := st0_get q
    cases i with
    | zero =>
      simp at q
      exact ⟨rfl, q.symm⟩
    | succ i => simp at q
  have nos : ∀ i b, ¬ OS ⟨o, [], fun _ _ _ _ => False, { T with k := (c', X.env.qual ++ "<lambda>") :: T.k }⟩ ⟨st0 Ng.length [.ref f], cs⟩ (L2.start Ng [.ref f]) i b := fun i b ⟨⟨d, q⟩, oi, _⟩ => by
    obtain ⟨rfl, _⟩ := g0 q
    have oi : o 0 = true := oi
    rw [ho] at oi
    cases oi
  have r0 : SR X.K ⟨o, [], fun _ _ _ _ => False, { T with k := (c', X.env.qual ++ "<lambda>") :: T.k }⟩ (fr0 H B [] [] cs) B ⟨st0 Ng.length [.ref f], cs⟩ (L2.start Ng [.ref f]) H [] := by
    refine ⟨by simp [st0, L2.start], ag.bh, Evl.Ex.refl _, fun _ _ _ => rfl, fun _ h => h, fun _ _ h _ _ => h, fun i v h => ?_, fun a h => ?_, tb, fun _ m => (by cases m), fun i d h => ?_, fun i a h => absurd h (nos i a), fun i j a h => absurd h (nos i a), fun a d h => ?_⟩
    · have h : (if i ∈ ([] : List Nat) then ([] : List V)[i]? else none) = some v := h
      simp at h
    · rcases h with ⟨i, m, _⟩ | ⟨d, h⟩
      · cases m
      · exact (ag.cl a d h).1.pn
    · obtain ⟨rfl, rfl⟩ := g0 h
      exact ⟨.ref f, rfl, .inl ⟨ho, .ref f⟩⟩
    · obtain ⟨z1, z2, _⟩ := ag.cl a d h
      exact ⟨z1, ⟨z2, .inl (.inr ⟨d, h⟩), fun m => (by cases m)⟩, fun i => nos i a⟩
  have fin : ∀ {B' s' σ' H'}, SR X.K ⟨o, [], fun _ _ _ _ => False, { T with k := (c', X.env.qual ++ "<lambda>") :: T.k }⟩ (fr0 H B [] [] cs) B' s' σ' H' [] → Rts X.K T B H [] [] cs B' H' [] s'.cs := fun {B' s' σ' H'} r => by
    have R := SR.rts (c := ⟨o, [], fun _ _ _ _ => False, { T with k := (c', X.env.qual ++ "<lambda>") :: T.k }⟩) r (fun i m => (by cases m)) (fun i m => (by cases m)) rfl
    exact ⟨R.k1, R.k2, R.k3, R.th, R.fr, ⟨R.tb.l, R.tb.z, fun x m => R.tb.k x (List.mem_cons_of_mem _ m), R.tb.n⟩, R.len, R.outs, R.cl⟩
  refine ⟨t, p, dd _ B _ _ H _ (vends [] (fun d _ cs' => Pq d cs') fun _ _ _ => False) r0 (hm cs Pq hS) ⟨fun s' σ' B' H' q r' e => ?_, fun d s' σ' v B' H' q r' e z => ?_, fun _ _ _ _ q => q.elim, fun _ _ _ _ q => q.elim, fun σ' n s' B' H' q r' => ?_⟩⟩
  · obtain ⟨outs, h1, h2⟩ := q
    exact hQ _ _ _ B' H' h2 (fin r') .non
  · obtain ⟨outs, h1, h2⟩ := q
    exact hQ d _ v B' H' h2 (fin r') z
  · obtain ⟨outs, h1, h2⟩ := q
    exact h2.elim
/-- x(lambda: body) -/
def wLam (ws : List Nat) (Sp : LSp) (fb : Wt Dt) : Wt Dt := fun s P _ => Sp (lamS (wipeL s.l ws) fb) s.cs fun d cs' => P d ⟨s.l, cs'⟩
theorem vx_lam {X : Cx} {c : Vc} {x a : Str} {d : He.DefD} {fd : FuncData} {Ng : List Str} {cc P : Addr} {k : Nat} {params : Arguments} {body : Expr} {scope : Scope} {fb : Wt Dt} {Sp : LSp} {p lpos pos : Pos} (ws : List Nat)
    (hG : LamFn X.prog X.w X.K X.mg X.base d Ng a (k + 1) Sp) (F : FunD X.K d.name d.qual d.params d.body d.scope [] [] (He.fAd X.K d.at_) fd) (S : FnScope Ng [a] d.scope) (hb : BindsP [a] d) (hm : X.mg x = some (.ref (He.fAd X.K d.at_)))
    (TB : LamX.TabB X.base X.mg cc P) (hcode : X.env.code = .ref cc) (hmT : (P, X.env.qual ++ "<lambda>") ∈ c.T.l) (hu : ∀ q ∈ c.T.l, q.1 = P → q.2 = X.env.qual ++ "<lambda>")
    (hr : GRoom (k + 2) X.A) (hdef : defaultsOf params X.env = ([], [])) (hbind : ∀ (q : Str) (cl : List (Str × Addr)) (pm cv ctv : Value), bindArgs (PySem.W.kla_fn "<lambda>" q params body scope cl pm cv ctv) ⟨[], []⟩ = pure [])
    (hbody : ∀ (T : Tbs) (E : XK) (A : Around) (outer : List Env) (s : Shared) (H : Hp) (f c' : Addr), GRoom k (A.deeper (LamX.lamEnv X scope s.heap.objs.size f c')) → VX (LamX.lamCx X A outer s H E scope f c') (cLam E T) body fb)
    (hws : ∀ i, c.o i = true → i ∈ ws) (L : LamX.LamS X.env.scope scope) (hN : Ng[0]? = some a := by rfl) (hv : Vis d.scope a := by first | exact Or.inl rfl | exact Or.inr (Or.inl rfl))
    (hg : Gl X x := by rfl) (hdb : (x == ("__debug__" : Str)) = false := by decide) (hd : (a == ("__debug__" : Str)) = false := by decide) (hcd : (a == ("__classdict__" : Str)) = false := by decide) :
    VX X c (.Call (.Name x p) [.Lambda params body scope lpos] [] pos) (wLam ws Sp fb) := by
  have hN0 : 0 < Ng.length := (List.getElem?_eq_some_iff.mp hN).1
  refine ⟨_, lam_call (t := lamT X.K c.T.l fb) F S hb hm hN hv (gives_of hG hN0) TB hcode hmT hu hr L hdef hbind (fun E A outer s H f c' hr2 => ⟨fun pins s' σ H' Q I q => ?_⟩) hg hdb hd hcd, ?_⟩
  · obtain ⟨T, F', B, s0, P', Er, _, r, hf, k1, k2⟩ := q
    obtain ⟨te, h1, h2⟩ := hbody T E A outer s H f c' hr2
    exact h1.run pins s' σ H' Q I (h2 F' B s0 σ H' Q P' Er r hf k1 k2)
  · intro F' B s σ H Q P' Er r hf k1 kx
    refine ⟨fun q m => (r.tb.l q m).1, fun H1 eN t1 => ?_⟩
    have r1 := r.extN eN t1
    have r2 := r1.ags0
    refine ⟨⟨c.T.l, B, c.T.k⟩, B, s.cs, lamS (wipeL s.l ws) fb, fun d cs' => P' d ⟨s.l, cs'⟩, ⟨r2.len, r2.bh, ⟨r2.tb.l, Evl.Ex.refl _, r2.tb.k, r2.tb.n⟩, r2.at_, r2.dj, r2.cl⟩, fun E H2 Q2 q => lamT_of (T := ⟨c.T.l, B, c.T.k⟩) (by rw [wipeL_len]; exact r.len) (fun i d e => ?_) q, hf, fun d cs' v B' H' q R z => ?_⟩
    · obtain ⟨n, e⟩ := wipeL_get e
      exact r.get e (by
        cases w : c.o i with
        | false => rfl
        | true => exact absurd (hws i w) n)
    · have R' : Rts X.K c.T B H1 [] [] s.cs B' H' [] cs' := ⟨R.k1, R.k2, R.k3, R.th, R.fr, ⟨R.tb.l, Evl.Ex.trans r1.tb.z R.k1, R.tb.k, R.tb.n⟩, R.len, R.outs, R.cl⟩
      exact k1 d _ v B' H' q (r1.back0 R') R.k1 z
/-! ### reading -/
section
variable {ws : List Nat} {Sp : LSp} {fb : Wt Dt} {s : Sl} {P : PD} {E : PEr} {i : Nat} {f : Addr} {S : Fs} {l : List (Option Dt)} {ds : List Dt} {cs : Cells} {Q : Dt → List Dt → Cells → Prop} {R : Str → List Dt → Cells → Prop} {d : Dt} {n : Str}
theorem e_wipe0 : wipeL l [] = l := rfl
theorem e_wipe1 : wipeL l (i :: ws) = wipeL (l.set i none) ws := rfl
def kLam (P : PD) (l : List (Option Dt)) (d : Dt) (cs : Cells) : Prop := P d ⟨l, cs⟩
theorem e_Lam : wLam ws Sp fb s P E = Sp (lamS (wipeL s.l ws) fb) s.cs (kLam P s.l) := rfl
theorem e_kLam : kLam P l d cs = P d ⟨l, cs⟩ := rfl
def kAct (P : PD) (l : List (Option Dt)) (d : Dt) (_ : List Dt) (cs : Cells) : Prop := P d ⟨l, cs⟩
def kActE (E : PEr) (l : List (Option Dt)) (n : Str) (_ : List Dt) (cs : Cells) : Prop := E n ⟨l, cs⟩
theorem e_Act : wAct i f S s P E = bO (gS s i) (fun d => d = .ref f ∧ S [] s.cs (kAct P s.l) (kActE E s.l)) := by
  rw [bO_gS]
  apply propext
  constructor
  · rintro ⟨h1, h2⟩
    exact ⟨_, h1, rfl, h2⟩
  · rintro ⟨_, h1, rfl, h2⟩
    exact ⟨h1, h2⟩
theorem e_kAct : kAct P l d ds cs = P d ⟨l, cs⟩ := rfl
theorem e_kActE : kActE E l n ds cs = E n ⟨l, cs⟩ := rfl
def kLs (Q : Dt → List Dt → Cells → Prop) (d : Dt) (s : Sl) : Prop := Q d [] s.cs
def kLsE (R : Str → List Dt → Cells → Prop) (n : Str) (s : Sl) : Prop := R n [] s.cs
theorem e_lamS : lamS l fb ds cs Q R = fb ⟨l, cs⟩ (kLs Q) (kLsE R) := rfl
theorem e_kLs : kLs Q d s = Q d [] s.cs := rfl
theorem e_kLsE : kLsE R n s = R n [] s.cs := rfl
end
end Dv
/-! DvMeth: methods of built-ins that only read, by value. -/
namespace Dv
open PySem PySem.Spec PyProof.Rows L2 Ts
def isRd (T : String) : Dt → Bool
  | .list _ => T == "list"
  | .dic _ => T == "dict"
  | .dct _ => T == "dict"
  | .str _ => T == "str"
  | _ => false
def wBm (T : String) (g : Dt → List Dt → Option Dt) (fo : Wt ArgV) (fl : Wt (List Dt)) : Wt Dt := fun s P E => fo s (fun h s0 => ∃ d0, valOf s0 h = some d0 ∧ isRd T d0 = true ∧
  fl s0 (fun xs s1 => ∃ d, valOf s1 h = some d ∧ ∃ w, g d xs = some w ∧ P w s1) E) E
theorem fz_tyR {K : PySem.W.Frag} {B H : Hp} {v : V} {d : Dt} {T : String} (h : Fz K B v d) (e : Ex B H) (ht : isRd T d = true) : tyV K T v H := by
  cases h with
  | str x => exact beq_iff_eq.mp ht
  | lst h _ => exact .inl ⟨beq_iff_eq.mp ht, _, SqL.of (e _ _ h)⟩
  | dic h _ _ => exact .inr (.inr (.inl ⟨beq_iff_eq.mp ht, .inl ⟨_, e _ _ h⟩⟩))
  | dct h _ _ => exact .inr (.inr (.inl ⟨beq_iff_eq.mp ht, .inr ⟨_, e _ _ h⟩⟩))
  | non => cases ht
  | bl b => cases ht
  | int i => cases ht
  | tup _ _ => cases ht
  | ins _ _ _ => cases ht
  | ref a => cases ht
  | err _ => cases ht
  | lsF _ => cases ht
theorem own_tyR {K : PySem.W.Frag} {B H : Hp} {a : Addr} {d : Dt} {T : String} (h : Own K B H a d) (ht : isRd T d = true) : tyV K T (.ref a) H := by
  refine own_ty h ?_
  cases d <;> first | exact ht | (cases ht; done) | skip
  cases h
theorem rdb_tyR {K : PySem.W.Frag} {B H : Hp} {v : V} {d : Dt} {T : String} (h : Rdb K B H v d) (e : Ex B H) (ht : isRd T d = true) : tyV K T v H := by
  rcases h with h | ⟨a, rfl, h⟩
  · exact fz_tyR h e ht
  · exact own_tyR h ht
def MtV (X : Cx) (id : String) (g : Dt → List Dt → Option Dt) : Prop := ∃ r, MtR X id r ∧ ∀ B H v x vs xs d Q, Ex B H → Rdb X.K B H v x → FzA X.K B vs xs → g x xs = some d → Rep X.K B H d Q → r v vs H Q
section
variable {X : Cx} {c : Vc} {e a : Expr} {es : List Expr} {fo : Wt ArgV} {fl : Wt (List Dt)} {T id : String} {g : Dt → List Dt → Option Dt}
theorem d_bm {r : V → List V → Hp → VK → Prop} {to : TE} {ta : TA} (hr : ∀ B H v x vs xs d Q, Ex B H → Rdb X.K B H v x → FzA X.K B vs xs → g x xs = some d → Rep X.K B H d Q → r v vs H Q)
    (ho : DL X.K c to fo) (ha : DA X.K c ta fl) : DX X.K c (tBM X.K T r to ta) (wBm T g fo fl) := by
  intro F B s σ H Q P E rr hf k kx
  refine ho F B s σ H _ _ E rr hf (fun h s0 v B0 H0 p0 r0 e0 z0 => ?_) kx
  obtain ⟨d0, h0, ht, hf⟩ := p0
  refine ⟨rdb_tyR (rdb_at r0 z0 h0) r0.bh ht, ha F B0 s0 σ H0 _ _ E r0 hf (fun xs s1 vs B1 H1 p1 r1 e2 z2 => ?_) kx⟩
  obtain ⟨d, hd, w, hg, q⟩ := p1
  exact hr B1 H1 v d vs xs w Q r1.bh (rdb_at r1 (z0.ex e2) hd) z2 hg fun u B2 H2 gr z => k w _ u B2 H2 q (r1.gr gr) (Evl.Ex.trans e0 (Evl.Ex.trans e2 gr.k1)) z
theorem vx_bm (hm : MtV X id g) (ho : VL X c a fo) (ha : VA X c es fl) (h : ∀ {r : V → List V → Hp → VK → Prop} {to : TE} {t : TA}, MtR X id r → PE X a to → PA X es t → PE X e (tBM X.K T r to t)) : VX X c e (wBm T g fo fl) := by
  obtain ⟨r, h1, h2⟩ := hm
  obtain ⟨to, o1, o2⟩ := ho
  obtain ⟨ta, a1, a2⟩ := ha
  exact ⟨_, h h1 o1 a1, d_bm h2 o2 a2⟩
theorem vx_bm0 (hm : MtV X id g) (ho : VL X c a fo) (h : ∀ {r : V → List V → Hp → VK → Prop} {to : TE}, MtR X id r → PE X a to → PE X e (tBM0 X.K T r to)) : VX X c e (wBm T g fo wNil) := by
  obtain ⟨r, h1, h2⟩ := hm
  obtain ⟨to, o1, o2⟩ := ho
  refine ⟨_, h h1 o1, ?_⟩
  intro F B s σ H Q P E rr hf k kx
  refine o2 F B s σ H _ _ E rr hf (fun h s0 v B0 H0 p0 r0 e0 z0 => ?_) kx
  obtain ⟨d0, h0, ht, d, hd, w, hg, q⟩ := p0
  have ed : d0 = d := Option.some.inj (h0.symm.trans hd)
  subst ed
  exact ⟨rdb_tyR (rdb_at r0 z0 h0) r0.bh ht, h2 B0 H0 v d0 [] [] w Q r0.bh (rdb_at r0 z0 h0) .nil hg fun u B2 H2 gr z => k w _ u B2 H2 q (r0.gr gr) (Evl.Ex.trans e0 gr.k1) z⟩
end
/-! ### lists: count, index -/
def cntD (y : Dt) (ds : List Dt) : Nat := ds.countP fun z => eqD z y
def gCount : Dt → List Dt → Option Dt
  | .list ds, [y] => if plain y = true ∧ plain (.list ds) = true then some (.int (cntD y ds : Nat)) else none
  | _, _ => none
def rCountD (K : PySem.W.Frag) : V → List V → Hp → VK → Prop := fun x xs H Q => ∃ (a : Addr) (y : V) (d : PyData) (ds : List PyData), x = V.ref a ∧ xs = [y] ∧ Dp K H (V.ref a) (.list ds) ∧ Dp K H y d ∧
  SeqAt.shaped (.list ds) = true ∧ SeqAt.shaped d = true ∧ Q (.int ((ds.countP fun z => PyData.eqv z d : Nat) : Int)) H
theorem mt_countD {X : Cx} (hu : X.A.units + 65 < cLine) : MtR X "list.count" (rCountD X.K) := by
  intro pins s σ H x xs v us Q I rx rxs h
  obtain ⟨a, y, d, ds, rfl, rfl, hl, hy, sl, sd, q⟩ := h
  cases rx
  obtain ⟨u0, rfl, ru⟩ := rxs.one
  obtain ⟨bs, r1⟩ := Dp.reads I d y u0 hy ru
  have lay := SeqAt.canLay_of_shaped sd
  have lays : PyData.canLayAll0 ds = true := SeqAt.canLay_of_shaped sl
  cases hl with
  | lst hs ha =>
    obtain ⟨its, rv, ⟨⟨cls, dd, data, sls⟩, n, ho, hc, _, hdt⟩, _⟩ := I.list hs
    simp only at hc hdt
    subst hc hdt
    obtain ⟨as, h4⟩ := Dp.readsAll I ds _ its ha rv
    have em : its.map (SeqAt.readOf s.heap) = ds := SeqAt.readsAll_map ds its as lays h4
    refine call_meets PySem.F.slot_list_count ⟨_, ho, rfl⟩ PySem.F.entry_list_count (PySem.F.args_list_count_2 _ _)
      (SeqAt.list_countAt a its.toArray n dd sls u0 fun u => PyData.eqv (SeqAt.readOf s.heap u) d)
      ⟨ho, SeqAt.items_eqAt (vs := its.toArray) (show ReadsAll s.heap its.toArray.toList ds as from h4) r1 lays lay (room_in_shaped sd hu), ⟨.int ((ds.countP fun z => PyData.eqv z d : Nat) : Int), H, I.tok _, ⟨s.toks, ?_⟩, q⟩⟩
    have ec : its.toArray.toList.countP (fun u => PyData.eqv (SeqAt.readOf s.heap u) d) = ds.countP fun z => PyData.eqv z d := by
      rw [← em, List.countP_map]
      rfl
    show Value.int _ _ = Value.int _ _
    rw [ec]
theorem cnt_py (y : Dt) (ds : List Dt) : ((Dt.pyL ds).countP fun z => PyData.eqv z y.py) = cntD y ds := by
  rw [Dt.pyL_map, List.countP_map]
  rfl
theorem mtListCountV {X : Cx} (hu : X.A.units + 65 < cLine) : MtV X "list.count" gCount := by
  refine ⟨_, mt_countD hu, fun B H v x vs xs d Q bh hx hxs hd k => ?_⟩
  unfold gCount at hd
  split at hd
  · split at hd
    · rename_i q
      cases hd
      cases hxs with
      | cons z zs =>
        cases zs
        obtain ⟨p, ys, rfl, h1, h2⟩ := hx.list bh
        refine ⟨p, _, _, _, rfl, rfl, hx.dp bh q.2, (z.ex bh).dp (plain_dict q.1), q.2, q.1, ?_⟩
        rw [cnt_py]
        exact k _ B H (Gr.refl bh) (.int _)
    · cases hd
  · cases hd
def ixD (y : Dt) : List Dt → Option Nat
  | [] => none
  | z :: r => if eqD z y = true then some 0 else (ixD y r).map (· + 1)
theorem ixD_ok {y : Dt} : ∀ {ds : List Dt} {j : Nat}, ixD y ds = some j → (∃ z, ds[j]? = some z ∧ eqD z y = true) ∧ ∀ m z, m < j → ds[m]? = some z → eqD z y = false
  | [], _, h => by cases h
  | z :: r, j, h => by
    unfold ixD at h
    split at h
    · rename_i e
      cases h
      exact ⟨⟨z, rfl, e⟩, fun m _ hm => absurd hm (Nat.not_lt_zero m)⟩
    · rename_i e
      cases q : ixD y r with
      | none => rw [q] at h; cases h
      | some i =>
        rw [q] at h
        cases h
        obtain ⟨⟨w, h1, h2⟩, h3⟩ := ixD_ok q
        refine ⟨⟨w, h1, h2⟩, fun m x hm hx => ?_⟩
        cases m with
        | zero =>
          cases hx
          cases b : eqD z y with
          | false => rfl
          | true => exact absurd b e
        | succ m => exact h3 m x (Nat.lt_of_succ_lt_succ hm) hx
theorem ixD_lt {y : Dt} {ds : List Dt} {j : Nat} (h : ixD y ds = some j) : j < ds.length := by
  obtain ⟨⟨z, e, _⟩, _⟩ := ixD_ok h
  exact (List.getElem?_eq_some_iff.mp e).1
def gIndex : Dt → List Dt → Option Dt
  | .list ds, [y] => if plain y = true ∧ plain (.list ds) = true then (ixD y ds).map fun j => .int (j : Nat) else none
  | _, _ => none
theorem mtListIndexV {X : Cx} (hu : X.A.units + 65 < cLine) : MtV X "list.index" gIndex := by
  refine ⟨_, mt_indexD hu, fun B H v x vs xs d Q bh hx hxs hd k => ?_⟩
  unfold gIndex at hd
  split at hd
  · rename_i ds y
    split at hd
    · rename_i q
      cases e : ixD y ds with
      | none => rw [e] at hd; cases hd
      | some j =>
        rw [e] at hd
        cases hd
        obtain ⟨⟨z0, h1, h2⟩, h3⟩ := ixD_ok e
        cases hxs with
        | cons z zs =>
          cases zs
          obtain ⟨p, ys, rfl, _, _⟩ := hx.list bh
          refine ⟨p, _, _, _, j, z0.py, rfl, rfl, hx.dp bh q.2, (z.ex bh).dp (plain_dict q.1), q.2, q.1, ?_, h2, fun m z' hm hz' => ?_, k _ B H (Gr.refl bh) (.int _)⟩
          · rw [Dt.pyL_map, List.getElem?_map, h1]
            rfl
          · rw [Dt.pyL_map, List.getElem?_map] at hz'
            cases e2 : ds[m]? with
            | none => rw [e2] at hz'; cases hz'
            | some w =>
              rw [e2] at hz'
              cases hz'
              exact h3 m w hm e2
    · cases hd
  · cases hd
/-! ### reading -/
section
variable {T : String} {g : Dt → List Dt → Option Dt} {fo : Wt ArgV} {fl : Wt (List Dt)} {s s1 : Sl} {P : PD} {E : PEr} {h : ArgV} {xs : List Dt} {d : Dt}
def kBm3 (g : Dt → List Dt → Option Dt) (xs : List Dt) (P : PD) (s1 : Sl) (d : Dt) : Prop := bO (g d xs) (fl1 P s1)
def kBm2 (g : Dt → List Dt → Option Dt) (h : ArgV) (P : PD) (xs : List Dt) (s1 : Sl) : Prop := bO (valOf s1 h) (kBm3 g xs P s1)
def kBm1' (T : String) (g : Dt → List Dt → Option Dt) (fl : Wt (List Dt)) (P : PD) (E : PEr) (h : ArgV) (s0 : Sl) (d0 : Dt) : Prop := isRd T d0 = true ∧ fl s0 (kBm2 g h P) E
def kBm1 (T : String) (g : Dt → List Dt → Option Dt) (fl : Wt (List Dt)) (P : PD) (E : PEr) (h : ArgV) (s0 : Sl) : Prop := bO (valOf s0 h) (kBm1' T g fl P E h s0)
theorem e_Bm : wBm T g fo fl s P E = fo s (kBm1 T g fl P E) E := rfl
theorem e_kBm1 : kBm1 T g fl P E h s = bO (valOf s h) (kBm1' T g fl P E h s) := rfl
theorem e_kBm1' : kBm1' T g fl P E h s d = (isRd T d = true ∧ fl s (kBm2 g h P) E) := rfl
theorem e_kBm2 : kBm2 g h P xs s1 = bO (valOf s1 h) (kBm3 g xs P s1) := rfl
theorem e_kBm3 : kBm3 g xs P s1 d = bO (g d xs) (fl1 P s1) := rfl
theorem isRd_l {ds : List Dt} : isRd T (.list ds) = (T == "list") := rfl
theorem isRd_s {z : Str} : isRd T (.str z) = (T == "str") := rfl
end
end Dv
/-! DvRead: operations on data that are known, for the reading. -/
namespace Dv
open PySem PySem.Spec PyProof.Rows L2 Ts
section
variable {d y z : Dt} {ds es a b : List Dt} {i : Int} {n : Nat} {x : Str} {T : String}
theorem fget_nil {f : Str} : fget [] f = none := rfl
theorem fget_cons {f g : Str} {es : Fds} : fget ((g, d) :: es) f = if f = g then some d else fget es f := by
  show List.lookup _ _ = _
  rw [List.lookup_cons]
  by_cases h : f = g
  · rw [if_pos h, beq_iff_eq.mpr h]
  · rw [if_neg h]
    cases q : f == g with
    | true => exact absurd (beq_iff_eq.mp q) h
    | false => rfl
theorem fput_nil {f : Str} : fput f d [] = [(f, d)] := rfl
theorem fput_cons {f g : Str} {x : Dt} {es : Fds} : fput f d ((g, x) :: es) = if g = f then (g, d) :: es else (g, x) :: fput f d es := rfl
theorem app_l (h : ds.length < 1000000) : gAppend (.list ds) [d] = some (.none, .list (ds ++ [d])) := if_pos h
theorem items_t : itemsOf (.tuple ds) = some ds := rfl
theorem items_l : itemsOf (.list ds) = some ds := rfl
theorem gIsN_e : gIsN d .none = some (.bool (isN d)) := rfl
theorem gNotN_e : gNotN d .none = some (.bool (!isN d)) := rfl
theorem isN_non : isN .none = true := rfl
theorem isN_bl {p : Bool} : isN (.bool p) = false := rfl
theorem isN_int : isN (.int i) = false := rfl
theorem isN_str : isN (.str x) = false := rfl
theorem isN_l : isN (.list ds) = false := rfl
theorem isN_t : isN (.tuple ds) = false := rfl
theorem isN_d {es : Kvs} : isN (.dic es) = false := rfl
theorem isN_e : isN (.err x) = false := rfl
theorem isN_r {p : Addr} : isN (.ref p) = false := rfl
theorem isN_i {c : Str} {es : Fds} : isN (.ins c es) = false := rfl
theorem cat_l (h : a.length + b.length ≤ 1000000) : gCatL (.list a) (.list b) = some (.list (a ++ b)) := if_pos h
theorem cat_t (h : a.length + b.length ≤ 1000000) : gCatT (.tuple a) (.tuple b) = some (.tuple (a ++ b)) := if_pos h
theorem add_s {p q : Str} (h : p.length + q.length ≤ 1000000) : gAddS (.str p) (.str q) = some (.str (p ++ q)) := if_pos h
theorem cnt_l (h1 : plain y = true) (h2 : ds.all flat = true) : gCount (.list ds) [y] = some (.int (cntD y ds : Nat)) := if_pos ⟨h1, plain_l h2⟩
theorem cntD_nil : cntD y [] = 0 := rfl
theorem cntD_cons : cntD y (z :: ds) = cntD y ds + if eqD z y = true then 1 else 0 := List.countP_cons
theorem idx_l (h1 : plain y = true) (h2 : ds.all flat = true) : gIndex (.list ds) [y] = (ixD y ds).map fun j => .int (j : Nat) := if_pos ⟨h1, plain_l h2⟩
theorem ixD_nil : ixD y [] = none := rfl
theorem ixD_cons : ixD y (z :: ds) = if eqD z y = true then some 0 else (ixD y ds).map (· + 1) := rfl
theorem eq_bb {p q : Bool} : eqD (.bool p) (.bool q) = decide (p = q) := by
  show PyData.eqv (.bool p) (.bool q) = _
  unfold PyData.eqv
  cases p <;> cases q <;> rfl
theorem atI_nat {α : Type} {xs : List α} : atI xs (n : Int) = xs[n]? := by
  unfold atI ixN
  rw [if_pos (by omega)]
  by_cases h : n < xs.length
  · rw [if_pos (by omega)]
    rfl
  · rw [if_neg (by omega), List.getElem?_eq_none (by omega)]
    rfl
theorem ix_n : gIx (.list ds) (.int (n : Int)) = ds[n]? := atI_nat
theorem ixT_n : gIx (.tuple ds) (.int (n : Int)) = ds[n]? := atI_nat
theorem ix_i (h : 0 ≤ i) : gIx (.list ds) (.int i) = ds[i.toNat]? := by
  obtain ⟨n, rfl⟩ := Int.eq_ofNat_of_zero_le h
  exact atI_nat
theorem ixT_i (h : 0 ≤ i) : gIx (.tuple ds) (.int i) = ds[i.toNat]? := by
  obtain ⟨n, rfl⟩ := Int.eq_ofNat_of_zero_le h
  exact atI_nat
theorem atI_m1 {α : Type} {xs : List α} : atI xs (-1) = xs.getLast? := by
  unfold atI ixN
  rw [if_neg (by decide)]
  cases xs with
  | nil => rfl
  | cons x r =>
    rw [if_pos (by rw [List.length_cons]; omega), List.getLast?_eq_getElem?]
    have e : (-1 + ((x :: r).length : Int)).toNat = (x :: r).length - 1 := by
      rw [List.length_cons]
      omega
    rw [e]
    rfl
theorem ix_m1 : gIx (.list ds) (.int (-1)) = ds.getLast? := atI_m1
theorem ixT_m1 : gIx (.tuple ds) (.int (-1)) = ds.getLast? := atI_m1
theorem tup_l : gTupOf (.list ds) = some (.tuple ds) := rfl
theorem tup_t : gTupOf (.tuple ds) = some (.tuple ds) := rfl
theorem all_b {bs : List Bool} : gAll (.list (bs.map .bool)) = some (.bool (bs.all id)) := by
  show (boolsOf _).map _ = _
  rw [boolsOf_map]
  rfl
theorem all_m {p : Dt → Bool} : gAll (.list (ds.map fun d => .bool (p d))) = some (.bool (ds.all p)) := by
  rw [show ds.map (fun d => Dt.bool (p d)) = (ds.map p).map .bool from by rw [List.map_map]; rfl, all_b, List.all_map]
  rfl
theorem sum_i {ns : List Int} : gSum (.list (ns.map .int)) = some (.int ns.sum) := by
  show (intsOf _).map _ = _
  rw [intsOf_map]
  rfl
/-- a comprehension that turns each thing -/
theorem r_mapT {vs : List Nat} {gt : Dt → Sl → (Sl → Prop) → Prop} {ft : Wt Bool} {fe : Wt Dt} {P : PD} {s sw : Sl} (f : Dt → Dt) (hw : wipeS s vs = sw) (hl : ds.length ≤ 1000000)
    (h : ∀ d, d ∈ ds → ∀ (R : PD) (N : Sl → Prop), R (f d) sw → gt d sw (kMT ft fe vs R N)) (hd : P (.list (ds.map f)) sw) : kLcS vs gt ft fe P ds s := by
  refine r_map (fun d => some (f d)) hw hl (fun d m R N k _ => h d m R N (k _ rfl)) ?_
  rw [show ds.filterMap (fun d => some (f d)) = ds.map f from by rw [← List.filterMap_eq_map]; rfl]
  exact hd
/-- one that leaves some out -/
theorem r_mapF {vs : List Nat} {gt : Dt → Sl → (Sl → Prop) → Prop} {ft : Wt Bool} {fe : Wt Dt} {P : PD} {s sw : Sl} (p : Dt → Bool) (f : Dt → Dt) (hw : wipeS s vs = sw) (hl : ds.length ≤ 1000000)
    (h : ∀ d, d ∈ ds → ∀ (R : PD) (N : Sl → Prop), (p d = true → R (f d) sw) → (p d = false → N sw) → gt d sw (kMT ft fe vs R N)) (hd : P (.list ((ds.filter p).map f)) sw) : kLcS vs gt ft fe P ds s := by
  refine r_map (fun d => if p d = true then some (f d) else none) hw hl (fun d m R N k n => h d m R N (fun e => k _ (if_pos e)) fun e => n (if_neg (by rw [e]; decide))) ?_
  have e : ∀ l : List Dt, l.filterMap (fun d => if p d = true then some (f d) else none) = (l.filter p).map f := by
    intro l
    induction l with
    | nil => rfl
    | cons x r ih =>
      rw [List.filterMap_cons, List.filter_cons]
      cases q : p x with
      | true => simp [ih]
      | false => simpa using ih
  rw [e]
  exact hd
/-- a comprehension by an invariant -/
theorem r_lcI {vs : List Nat} {gt : Dt → Sl → (Sl → Prop) → Prop} {ft : Wt Bool} {fe : Wt Dt} {P : PD} {s : Sl} (I : Nat → List Dt → Sl → Prop) (h0 : I 0 [] (wipeS s vs))
    (h : ∀ i acc s d, ds[i]? = some d → I i acc s → gt d s (kMT ft fe vs (fun y s' => acc.length < 1000000 ∧ I (i + 1) (acc ++ [y]) s') (I (i + 1) acc))) (hd : ∀ acc s, I ds.length acc s → P (.list acc) s) : kLcS vs gt ft fe P ds s := ⟨I, h0, h, hd⟩
/-- over things that are told of: each turned, or left out -/
theorem r_gen {α : Type} {vs : List Nat} {gt : Dt → Sl → (Sl → Prop) → Prop} {ft : Wt Bool} {fe : Wt Dt} {P : PD} {s sw : Sl} {ps : List α} (g : α → Dt) (f : α → Option Dt) (hw : wipeS s vs = sw) (hl : ps.length ≤ 1000000)
    (h : ∀ p, p ∈ ps → ∀ (R : PD) (N : Sl → Prop), (∀ y, f p = some y → R y sw) → (f p = none → N sw) → gt (g p) sw (kMT ft fe vs R N)) (hd : P (.list (ps.filterMap f)) sw) : kLcS vs gt ft fe P (ps.map g) s := by
  have key : ∀ i p, ps[i]? = some p → (ps.take (i + 1)).filterMap f = (ps.take i).filterMap f ++ (match f p with | some y => [y] | none => []) := by
    intro i p e
    rw [List.take_succ, e, List.filterMap_append]
    congr 1
    show [p].filterMap f = _
    rw [List.filterMap_cons]
    cases f p <;> rfl
  refine ⟨fun i acc s => s = sw ∧ acc = (ps.take i).filterMap f, ⟨hw, by simp⟩, ?_, ?_⟩
  · rintro i acc s d e ⟨rfl, rfl⟩
    rw [List.getElem?_map] at e
    cases e2 : ps[i]? with
    | none => rw [e2] at e; cases e
    | some p =>
      rw [e2] at e
      cases e
      have hi : i < ps.length := (List.getElem?_eq_some_iff.mp e2).1
      have hk := key i p e2
      refine h p (List.mem_of_getElem? e2) (fun y s' => ((ps.take i).filterMap f).length < 1000000 ∧ s' = _ ∧ (ps.take i).filterMap f ++ [y] = (ps.take (i + 1)).filterMap f) (fun s' => s' = _ ∧ (ps.take i).filterMap f = (ps.take (i + 1)).filterMap f) (fun y q => ?_) (fun q => ?_)
      · rw [q] at hk
        refine ⟨?_, rfl, hk.symm⟩
        have := List.length_filterMap_le f (ps.take i)
        rw [List.length_take] at this
        omega
      · rw [q, List.append_nil] at hk
        exact ⟨rfl, hk.symm⟩
  · rintro acc s ⟨rfl, rfl⟩
    rw [List.length_map, List.take_length]
    exact hd
theorem r_mapG {α : Type} {vs : List Nat} {gt : Dt → Sl → (Sl → Prop) → Prop} {ft : Wt Bool} {fe : Wt Dt} {P : PD} {s sw : Sl} {ps : List α} (g f : α → Dt) (hw : wipeS s vs = sw) (hl : ps.length ≤ 1000000)
    (h : ∀ p, p ∈ ps → ∀ (R : PD) (N : Sl → Prop), R (f p) sw → gt (g p) sw (kMT ft fe vs R N)) (hd : P (.list (ps.map f)) sw) : kLcS vs gt ft fe P (ps.map g) s := by
  refine r_gen g (fun d => some (f d)) hw hl (fun d m R N k _ => h d m R N (k _ rfl)) ?_
  rw [show ps.filterMap (fun d => some (f d)) = ps.map f from by rw [← List.filterMap_eq_map]; rfl]
  exact hd
theorem r_mapFG {α : Type} {vs : List Nat} {gt : Dt → Sl → (Sl → Prop) → Prop} {ft : Wt Bool} {fe : Wt Dt} {P : PD} {s sw : Sl} {ps : List α} (g : α → Dt) (p : α → Bool) (f : α → Dt) (hw : wipeS s vs = sw) (hl : ps.length ≤ 1000000)
    (h : ∀ d, d ∈ ps → ∀ (R : PD) (N : Sl → Prop), (p d = true → R (f d) sw) → (p d = false → N sw) → gt (g d) sw (kMT ft fe vs R N)) (hd : P (.list ((ps.filter p).map f)) sw) : kLcS vs gt ft fe P (ps.map g) s := by
  refine r_gen g (fun d => if p d = true then some (f d) else none) hw hl (fun d m R N k n => h d m R N (fun e => k _ (if_pos e)) fun e => n (if_neg (by rw [e]; decide))) ?_
  have e : ∀ l : List α, l.filterMap (fun d => if p d = true then some (f d) else none) = (l.filter p).map f := by
    intro l
    induction l with
    | nil => rfl
    | cons x r ih =>
      rw [List.filterMap_cons, List.filter_cons]
      cases q : p x with
      | true => simp [ih]
      | false => simpa using ih
  rw [e]
  exact hd
end
/-! ### o.f += e -/
section
variable {nm f : Str} {fo : Wt ArgV} {fv : Wt Dt} {s s1 s2 : Sl} {V : VEnds} {h : ArgV} {d : Dt} {es : Fds} {i j : Int}
def kFA5 (nm f : Str) (i : Int) (V : VEnds) (h : ArgV) (s2 : Sl) (j : Int) (es : Fds) : Prop := es.length < 1000 ∧ V.nx (putA s2 h (.ins nm (fput f (.int (i + j)) es)))
def kFA4 (nm f : Str) (i : Int) (V : VEnds) (h : ArgV) (s2 : Sl) (j : Int) : Prop := bO (insOf nm (valOf s2 h)) (kFA5 nm f i V h s2 j)
def kFA3 (nm f : Str) (V : VEnds) (h : ArgV) (i : Int) (d : Dt) (s2 : Sl) : Prop := bO (intOf d) (kFA4 nm f i V h s2)
def kFA2 (nm f : Str) (fv : Wt Dt) (V : VEnds) (h : ArgV) (s1 : Sl) (i : Int) : Prop := fv s1 (kFA3 nm f V h i) V.er
def kFA1' (nm f : Str) (fv : Wt Dt) (V : VEnds) (h : ArgV) (s1 : Sl) (es : Fds) : Prop := bO ((fget es f).bind intOf) (kFA2 nm f fv V h s1)
def kFA1 (nm f : Str) (fv : Wt Dt) (V : VEnds) (h : ArgV) (s1 : Sl) : Prop := (plc h).isSome = true ∧ bO (insOf nm (valOf s1 h)) (kFA1' nm f fv V h s1)
theorem e_FA : sFldAugW nm f fo fv s V = fo s (kFA1 nm f fv V) V.er := by
  have e3 : ∀ h i, (fun (d : Dt) (s2 : Sl) => ∃ es' j, d = .int j ∧ valOf s2 h = some (.ins nm es') ∧ es'.length < 1000 ∧ V.nx (putA s2 h (.ins nm (fput f (.int (i + j)) es')))) = kFA3 nm f V h i := by
    intro h i
    funext d s2
    unfold kFA3
    rw [intOf_eq]
    apply propext
    constructor
    · rintro ⟨es, j, rfl, e, q⟩
      refine ⟨j, rfl, ?_⟩
      unfold kFA4
      rw [insOf_eq]
      exact ⟨es, e, q⟩
    · rintro ⟨j, rfl, q⟩
      unfold kFA4 at q
      rw [insOf_eq] at q
      obtain ⟨es, e, q⟩ := q
      exact ⟨es, j, rfl, e, q⟩
  have : (fun (h : ArgV) (s1 : Sl) => (plc h).isSome = true ∧ ∃ es i, valOf s1 h = some (.ins nm es) ∧ fget es f = some (.int i) ∧
      fv s1 (fun d s2 => ∃ es' j, d = .int j ∧ valOf s2 h = some (.ins nm es') ∧ es'.length < 1000 ∧ V.nx (putA s2 h (.ins nm (fput f (.int (i + j)) es')))) V.er) = kFA1 nm f fv V := by
    funext h s1
    unfold kFA1
    rw [insOf_eq]
    apply propext
    constructor
    · rintro ⟨hp, es, i, e1, e2, q⟩
      rw [e3 h i] at q
      exact ⟨hp, es, e1, i, by rw [e2]; rfl, q⟩
    · rintro ⟨hp, es, e1, i, e2, q⟩
      have e4 : fget es f = some (.int i) := by
        cases z : fget es f with
        | none => rw [z] at e2; cases e2
        | some d =>
          rw [z] at e2
          have e2 : intOf d = some i := e2
          cases d <;> first | (cases e2; done) | skip
          cases e2
          rfl
      refine ⟨hp, es, i, e1, e4, ?_⟩
      rw [e3 h i]
      exact q
  show fo s _ V.er = _
  rw [this]
theorem e_kFA1 : kFA1 nm f fv V h s1 = ((plc h).isSome = true ∧ bO (insOf nm (valOf s1 h)) (kFA1' nm f fv V h s1)) := rfl
theorem e_kFA1' : kFA1' nm f fv V h s1 es = bO ((fget es f).bind intOf) (kFA2 nm f fv V h s1) := rfl
theorem e_kFA2 : kFA2 nm f fv V h s1 i = fv s1 (kFA3 nm f V h i) V.er := rfl
theorem e_kFA3 : kFA3 nm f V h i d s2 = bO (intOf d) (kFA4 nm f i V h s2) := rfl
theorem e_kFA4 : kFA4 nm f i V h s2 j = bO (insOf nm (valOf s2 h)) (kFA5 nm f i V h s2 j) := rfl
theorem e_kFA5 : kFA5 nm f i V h s2 j es = (es.length < 1000 ∧ V.nx (putA s2 h (.ins nm (fput f (.int (i + j)) es)))) := rfl
end
end Dv
/-! DvShow: texts whose signs are signs; the repr of short data. -/
namespace Dv
open PySem PySem.Spec PyProof.Rows L2 Ts
theorem strOk_of (s : String) : PyData.strOk (Str.ofString s) = true := by
  rw [Str.ofString_eq_toList]
  unfold PyData.strOk
  rw [List.all_toArray]
  rw [List.all_eq_true]
  intro n hn
  obtain ⟨c, _, rfl⟩ := List.mem_map.mp hn
  have h := c.valid
  have : c.toNat < 0x110000 := by
    rcases h with h | ⟨_, h⟩
    · exact Nat.lt_trans h (by decide)
    · exact h
  exact decide_eq_true this
theorem strOk_app (x y : Str) : PyData.strOk (x ++ y) = (PyData.strOk x && PyData.strOk y) := by
  show (x.cps ++ y.cps).all _ = _
  rw [Array.all_append]
  rfl
theorem strOk_join {sep : Str} (hs : PyData.strOk sep = true) : ∀ {ts : List Str}, (∀ t ∈ ts, PyData.strOk t = true) → PyData.strOk (Str.join sep ts) = true
  | [], _ => by
    simp only [Str.join]
    decide +kernel
  | [x], h => by
    simp only [Str.join]
    exact h x List.mem_cons_self
  | x :: y :: r, h => by
    show PyData.strOk (x ++ sep ++ Str.join sep (y :: r)) = true
    rw [strOk_app, strOk_app, h x List.mem_cons_self, hs, strOk_join hs fun t m => h t (List.mem_cons_of_mem _ m)]
    rfl
theorem strOk_text : ∀ {ts : List Str} (k : Nat) {acc : Str}, PyData.strOk acc = true → (∀ t ∈ ts, PyData.strOk t = true) → PyData.strOk (textFrom k acc ts) = true
  | [], _, _, h, _ => h
  | t :: ts, k, acc, h, ht => by
    show PyData.strOk (textFrom (k + 1) _ ts) = true
    refine strOk_text (k + 1) ?_ fun x m => ht x (List.mem_cons_of_mem _ m)
    rw [strOk_app, strOk_app, h, ht t List.mem_cons_self, strOk_of]
    rfl
mutual
theorem shown_ok : ∀ d : PyData, okR d = true → PyData.strOk d.shown = true
  | .none, _ => by
    simp only [PyData.shown]
    exact strOk_of _
  | .bool b, _ => by
    simp only [PyData.shown]
    cases b <;> exact strOk_of _
  | .int i, _ => by
    simp only [PyData.shown]
    exact strOk_of _
  | .str _, h => by simp [okR] at h
  | .dict _, h => by simp [okR] at h
  | .list xs, h => by
    simp only [okR] at h
    simp only [PyData.shown]
    show PyData.strOk (textFrom 0 _ _ ++ _) = true
    rw [strOk_app, strOk_text 0 (strOk_of _) (shown_oks xs h), strOk_of]
    rfl
  | .tuple xs, h => by
    simp only [okR] at h
    simp only [PyData.shown]
    show PyData.strOk (_ ++ Str.join _ _ ++ _) = true
    rw [strOk_app, strOk_app, strOk_of, strOk_of, strOk_join (strOk_of _) (shown_oks xs h)]
    rfl
theorem shown_oks : ∀ ds : List PyData, okRs ds = true → ∀ t ∈ PyData.shownAll ds, PyData.strOk t = true
  | [], _, _, m => by cases m
  | d :: ds, h, t, m => by
    simp only [okRs, Bool.and_eq_true] at h
    simp only [PyData.shownAll, List.mem_cons] at m
    rcases m with rfl | m
    · exact shown_ok d h.1
    · exact shown_oks ds h.2 t m
end
theorem rep_ok {d : Dt} (h : okR d.py = true) (hw : wtR d.py ≤ 1000000) (hp : d.py.depth ≤ 50) (hd : d.py.hasDict = false) : gRepr d = some (.str d.py.shown) := by
  refine if_pos ?_
  have := shown_up _ h
  unfold reprOk
  rw [showable_of _ h, hd, decide_eq_true hp, decide_eq_true (show d.py.shown.length ≤ 1000000 by omega)]
  rfl
theorem rep_int {i : Int} (h : i.natAbs < 10 ^ 31) : gRepr (.int i) = some (.str (PyData.int i).shown) :=
  rep_ok (d := .int i) (decide_eq_true h) (by show 32 ≤ 1000000; decide) (by show 0 ≤ 50; decide) rfl
theorem hasDict_ints : ∀ ns : List Int, PyData.hasDictAll (ns.map PyData.int) = false
  | [] => rfl
  | _ :: r => hasDict_ints r
theorem depth_ints : ∀ ns : List Int, PyData.depthAll (ns.map PyData.int) ≤ 0
  | [] => Nat.le_refl _
  | _ :: r => by
    have := depth_ints r
    simp only [List.map_cons, PyData.depthAll, PyData.depth]
    omega
theorem pyL_ints (ns : List Int) : Dt.pyL (ns.map .int) = ns.map PyData.int := by
  rw [Dt.pyL_map, List.map_map]
  rfl
theorem rep_ints {ns : List Int} (h : ∀ x ∈ ns, x.natAbs < 10 ^ 31) (hl : ns.length ≤ 10000) : gRepr (.tuple (ns.map .int)) = some (.str (PyData.tuple (ns.map PyData.int)).shown) := by
  have e : Dt.py (.tuple (ns.map .int)) = .tuple (ns.map PyData.int) := by
    show PyData.tuple (Dt.pyL _) = _
    rw [pyL_ints]
  have h1 := okR_ints ns h
  have h2 := wtR_ints ns
  have h3 := depth_ints ns
  have h4 := hasDict_ints ns
  rw [← e]
  refine rep_ok ?_ ?_ ?_ ?_ <;> rw [e]
  · simpa only [okR] using h1
  · simp only [wtR]
    omega
  · simp only [PyData.depth]
    omega
  · simpa only [PyData.hasDict] using h4
theorem shown_ints_ok {ns : List Int} (h : ∀ x ∈ ns, x.natAbs < 10 ^ 31) : PyData.strOk (PyData.tuple (ns.map PyData.int)).shown = true :=
  shown_ok _ (by simpa only [okR] using okR_ints ns h)
theorem flat_of {s : String} : flat (.str (Str.ofString s)) = true := strOk_of s
theorem eqD_refl {d : Dt} (h : plain d = true) : eqD d d = true := SeqAt.eqv_refl _ (SeqAt.canLay_of_shaped h)
theorem eq_same {d : Dt} (h : plain d = true) : gEq d d = some (.bool true) := by
  show (if plain d = true ∧ plain d = true then _ else _) = _
  rw [if_pos ⟨h, h⟩, eqD_refl h]
theorem ne_same {d : Dt} (h : plain d = true) : gNe d d = some (.bool false) := by
  show (if plain d = true ∧ plain d = true then _ else _) = _
  rw [if_pos ⟨h, h⟩, eqD_refl h]
  rfl
theorem rep_l {a : List Dt} {n : Int} (h : 0 ≤ n ∧ n ≤ 1000000 ∧ a.length * n.toNat ≤ 1000000) : gRepL (.list a) (.int n) = some (.list (List.replicate n.toNat a).flatten) := if_pos h
theorem resO_v {α : Type} {P : α → Prop} {d e : α} (k : P d) (h : d = e) : P e := h ▸ k
end Dv
/-! DvEnd: the law's end, where defs with lambdas have tables of code objects. -/
namespace Dv
open PySem PySem.Spec PyProof.Rows L2 Ts
abbrev tabA (K : PySem.W.Frag) (tf : List He.Defn) : List Addr := tf.map fun p => (He.cT K p).2
abbrev eTab : Obj := { cls := .none, data := .fields #[] }
section
variable {P : Program} {w : World} {K : PySem.W.Frag} {mg mb : Str → Option Value} {k : Nat} {fa a : Addr} {S : Fs} {s1 : Shared} {vs : List Value} {ns : List Int} {x : Str} {tf : List He.Defn}
theorem law_endT (KX : K.In s1.heap) (hns : s1.heap.Ns mainGlobals mg) (hb : s1.heap.Ns builtinsNs mb) (hbb : ∀ y : Str, y ≠ "__name__" → mb y = bootBuiltins y) (hlim : s1.heap.NoLimit) (hg : s1.gens = #[])
    (hd : ∀ p ∈ tf, PySem.W.codeHdIn K (He.cT K p).1 (He.cT K p).2 = true) (out : ∀ p ∈ tf, K.lookup (He.cT K p).2 = none) (hem : ∀ p ∈ tf, s1.heap.get? (He.cT K p).2 = some eTab) (hnd : (tabA K tf).Nodup)
    (hmain : ∃ (bm : Addr) (ob : Obj), mg "__builtins__" = some (.ref bm) ∧ bm ≠ builtinsNs ∧ s1.heap.get? bm = some ob ∧ ob.cls = .type "module" ∧ ob.dict = some builtinsNs ∧ ob.data = .plain)
    (ha : s1.heap.get? a = some { cls := .type "list", data := .seq vs.toArray }) (hi : IntsAre vs ns) (hl : ns.length ≤ sizeLine) (hr : GRoom k callerA)
    (F : ∀ base : Heap, K.In base → base.Ns mainGlobals mg → ∀ TL, Tlam tf K mg base TL → GFn P w K mg base k fa [x] (spV K TL 1 [] S))
    (hS : S [.lsF ns] (fun _ => none) (fun v _ _ => v = .bool true) fun _ _ _ => False) :
    codeAny (model P w) callerA (.call (.ref fa) ⟨[.ref a], []⟩) (Told s1) s1 := by
  have rv := vals_ints hi
  have lv := hi.length
  let ob : Obj := { cls := .type "list", data := .seq vs.toArray }
  have tabO : ∀ {b : Addr}, b ∈ tabA K tf → s1.heap.get? b = some eTab := fun {b} m => by
    obtain ⟨p, hp, e⟩ := List.mem_map.mp m
    rw [← e]
    exact hem p hp
  have ha' : a ∉ tabA K tf := fun m => by
    have e := tabO m
    rw [ha] at e
    have z := congrArg Obj.data (Option.some.inj e)
    cases z
  let H : Hp := fun b => if b ∈ tabA K tf then some (.tbl #[]) else if b = a ∧ K.lookup a = none then some (.frz ob (.lst (ns.map V.int))) else none
  have Ht : ∀ {b}, b ∈ tabA K tf → H b = some (.tbl #[]) := fun m => if_pos m
  have Hn : ∀ {b}, b ∉ tabA K tf → ¬ (b = a ∧ K.lookup a = none) → H b = none := fun m n => (if_neg m).trans (if_neg n)
  have Hcase : ∀ {b u}, H b = some u → (b ∈ tabA K tf ∧ u = .tbl #[]) ∨ (b ∉ tabA K tf ∧ b = a ∧ K.lookup a = none ∧ u = .frz ob (.lst (ns.map V.int))) := fun {b u} e => by
    by_cases m : b ∈ tabA K tf
    · rw [Ht m] at e
      cases e
      exact .inl ⟨m, rfl⟩
    · by_cases n : b = a ∧ K.lookup a = none
      · have e2 : H b = some (.frz ob (.lst (ns.map V.int))) := (if_neg m).trans (if_pos n)
        rw [e2] at e
        cases e
        exact .inr ⟨m, n.1, n.2, rfl⟩
      · rw [Hn m n] at e
        cases e
  have hseq : SqL K H a (ns.map V.int) := by
    cases hk : K.lookup a with
    | some o =>
      have e := KX a o hk
      rw [ha] at e
      cases e
      exact .inr ⟨_, vs.toArray, _, hk, rfl, rfl, rfl, by rw [List.size_toArray, lv]; exact hl, by simpa using rv⟩
    | none => exact .inl (.inr ⟨ob, (if_neg ha').trans (if_pos ⟨rfl, hk⟩)⟩)
  have hok : HOk P w H s1.heap := fun b u e => by
    rcases Hcase e with ⟨m, rfl⟩ | ⟨_, rfl, _, rfl⟩
    · exact tabO m
    · exact ⟨ha, by rw [List.length_map]; exact hl, vs, _, rv, ha⟩
  have keepB : ∀ {b : Addr} {o : Obj}, s1.heap.get? b = some o → H b = none → (hidT s1.heap H).get? b = some o := fun e n => hidT_get e n
  have other : ∀ {b : Addr} {o : Obj}, s1.heap.get? b = some o → (∀ its n, o.data ≠ .seq its n) → o.data ≠ .fields #[] → H b = none := fun {b o} e h1 h2 => by
    refine Hn (fun m => ?_) fun ⟨m, _⟩ => ?_
    · rw [tabO m] at e
      cases e
      exact h2 rfl
    · rw [m, ha] at e
      cases e
      exact h1 _ _ rfl
  have nsB : ∀ {b : Addr} {m : Str → Option Value}, s1.heap.Ns b m → (hidT s1.heap H).Ns b m := by
    rintro b m ⟨o, es, ep, e, d, r⟩
    refine ⟨o, es, ep, keepB e (other e (fun its n z => ?_) fun z => ?_), d, r⟩ <;> (rw [d] at z; cases z)
  have kB : K.In (hidT s1.heap H) := fun b o e => keepB (KX b o e) (Hn (fun m => by
    obtain ⟨p, hp, ep⟩ := List.mem_map.mp m
    rw [← ep, out p hp] at e
    cases e) fun ⟨m, n⟩ => by rw [m, n] at e; cases e)
  have limB : (hidT s1.heap H).NoLimit := by
    obtain ⟨mc, h1, h2⟩ := hlim
    exact ⟨mc, nsB h1, h2⟩
  have bmB : ∀ {b : Addr}, b ∈ tabA K tf → (hidT s1.heap H).BuiltinsAt mg b := fun {b} m => by
    obtain ⟨bm, om, q1, q2, q3, q4, q5, q6⟩ := hmain
    refine ⟨bm, om, q1, q2, fun z => ?_, fun z => ?_, keepB q3 (other q3 (fun its n z => ?_) fun z => ?_), q4, q5, q6⟩
    · obtain ⟨o, es, ep, e, d, _⟩ := hns
      rw [z, e] at q3
      cases q3
      rw [d] at q6
      cases q6
    · rw [z, tabO m] at q3
      cases q3
      cases q6
    · rw [q6] at z; cases z
    · rw [q6] at z; cases z
  have glob : ∀ {b : Addr}, b ∈ tabA K tf → mainGlobals ≠ b := fun {b} m z => by
    obtain ⟨o, es, ep, e, d, _⟩ := hns
    rw [z, tabO m] at e
    cases e
    cases d
  let TL : Tbs := ⟨tf.map fun p => ((He.cT K p).2, lamQ p), fun _ => none, []⟩
  have U : Tlam tf K mg (hidT s1.heap H) TL := ⟨fun p hp => ⟨PySem.W.codeHd_of_K kB (hd p hp), bmB (List.mem_map.mpr ⟨p, hp, rfl⟩), glob (List.mem_map.mpr ⟨p, hp, rfl⟩)⟩, rfl, hnd⟩
  have nomem : ∀ (b : Addr), b ∉ frs ([] : List Env) := fun b z => by cases z
  have e0 : Env0 P w K mg (hidT s1.heap H) callerA [] s1 H :=
    { frames := rfl, mod := ⟨kB, nsB hns, ⟨mb, nsB hb, hbb⟩, limB⟩, bs := fun b o e => of_hidT e, bsz := Nat.le_of_eq (hidT_size _ _), funs := trivial, frf := fun b z => absurd z (nomem b), hok := hok, bare := .of_eq hg }
  let B : Hp := fun b => if b ∈ tabA K tf then none else H b
  have Bn : ∀ {b}, b ∉ tabA K tf → B b = H b := fun m => if_neg m
  have bh : Ex B H := fun b u e => by
    by_cases m : b ∈ tabA K tf
    · have : B b = none := if_pos m
      rw [this] at e; cases e
    · rw [← Bn m]; exact e
  have tb1 : ∀ p ∈ TL.l, LamX.TabS H p.1 p.2 ∧ B p.1 = none := fun p m => by
    obtain ⟨q, hq, rfl⟩ := List.mem_map.mp m
    have m' : (He.cT K q).2 ∈ tabA K tf := List.mem_map.mpr ⟨q, hq, rfl⟩
    exact ⟨.nil (Ht m'), if_pos m'⟩
  have tb2 : ∀ b o, B b = some o → nt o = true := fun b u e => by
    rcases Hcase (bh b u e) with ⟨m, _⟩ | ⟨_, _, _, rfl⟩
    · have z : B b = none := if_pos m
      rw [z] at e
      cases e
    · rfl
  have tb : TbOk TL B H := ⟨tb1, fun _ _ e => (by cases e), fun p m => (by cases m), tb2⟩
  have sqB : SqL K B a (ns.map V.int) := by
    rcases hseq with (h | ⟨o, h⟩) | h
    · exact .inl (.inl ((Bn ha').trans h))
    · exact .inl (.inr ⟨o, (Bn ha').trans h⟩)
    · exact .inr h
  have ag : Ags K TL B H [] [.ref a] [.lsF ns] (fun _ => none) := by
    refine ⟨rfl, bh, tb, fun i d e => ?_, fun i m => (by cases m), fun _ _ e => (by cases e)⟩
    cases i with
    | zero =>
      cases e
      exact ⟨_, rfl, .inl ⟨fun m => (by cases m), .lsF sqB⟩⟩
    | succ i => simp at e
  have sp : spV K TL 1 [] S [.ref a] H (fun v _ => v = .bl true) fun _ _ _ => False :=
    ⟨_, _, B, _, _, rfl, ag, hS, fun d outs cs' v B' H' e _ z => by
      cases e
      cases z
      rfl, fun _ _ _ _ _ h _ => h⟩
  refine codeAny_mono ((F _ kB (nsB hns) TL U).run callerA [] s1 H [.ref a] [.ref a] _ _ hr e0 (Paired.cons rfl Paired.nil) sp) (fun r s' h => ?_)
  match r, h with
  | .error e, h =>
    obtain ⟨_, _, _, _, _, _, _, _, _, _, _, _, z⟩ := h
    exact z.elim
  | .ok (.ret u), h =>
    obtain ⟨v, H', os, bare, un, hok', r', q⟩ := h
    have ev : v = .bl true := q
    subst ev
    have eu : u = Value.bool true := r'
    subst eu
    have kept : ∀ b o, b ∉ tabA K tf → s1.heap.get? b = some o → s'.heap.get? b = some o := fun b o nb e => by
      cases z : H b with
      | none => exact un.keep b o e z (nomem b) (by simp)
      | some u =>
        rcases Hcase z with ⟨m, _⟩ | ⟨_, rfl, _, rfl⟩
        · exact absurd m nb
        · have q1 := (hok b _ z).1
          have q2 := (hok' b _ (un.frzs b ob _ z)).1
          rw [q2, ← q1, e]
    have grown : ∀ b, b ∈ tabA K tf → ∃ more : Array Value, s'.heap.get? b = some { cls := .none, data := .fields more } := fun b m => by
      obtain ⟨more, z⟩ := un.tbls b #[] (Ht m)
      exact ⟨_, hok' b _ z⟩
    refine ⟨rfl, ⟨fun b o e => ?_, fun b o e => ?_⟩, os, bare⟩
    · by_cases m : b ∈ tabA K tf
      · obtain ⟨more, z⟩ := grown b m
        have eo : o = eTab := Option.some.inj (e.symm.trans (tabO m))
        subst eo
        obtain ⟨p, hp, ep⟩ := List.mem_map.mp m
        have cd : PySem.W.CodeHd s1.heap (He.cT K p).1 b := by
          rw [← ep]
          exact PySem.W.codeHd_of_K KX (hd p hp)
        exact .inr (.inl ⟨(cd.tab (tabO m)).isCodeTable, rfl, #[], more, rfl, by rw [Array.empty_append]; exact z⟩)
      · exact .inl (kept b o m e)
    · by_cases m : b ∈ tabA K tf
      · obtain ⟨more, z⟩ := grown b m
        exact ⟨_, z⟩
      · exact ⟨o, kept b o m e⟩
end
/-- the law over a head by facts, defs with lambdas among it -/
theorem walkT {l : PySem.W.OpenLaw} {n k : Nat} {q : Program} {loose : List Str} {XP : (Str → Option Value) → Heap → Prop} {YP : World → Heap → Prop} {d : DefRec} {x : Str}
    (hn : l.most = some n) (hn2 : n ≤ sizeLine) (hdf : d.params.defaults = []) (hr : Room k callerA)
    (F : ∀ (w : World) (mg : Str → Option Value) (fa : Addr) (h : Heap), YP w h → h.Ns mainGlobals mg → mg d.name = some (.ref fa) →
      ∃ (K : PySem.W.Frag) (tf : List He.Defn) (S : Fs), K.In h ∧ (∀ p ∈ tf, PySem.W.codeHdIn K (He.cT K p).1 (He.cT K p).2 = true) ∧ (∀ p ∈ tf, K.lookup (He.cT K p).2 = none) ∧ (∀ p ∈ tf, h.get? (He.cT K p).2 = some eTab) ∧ (tabA K tf).Nodup ∧
        (∀ ns : List Int, ns.length ≤ n → (∀ z ∈ ns, Builtin.Int.intBits z ≤ 1048576) → S [.lsF ns] (fun _ => none) (fun v _ _ => v = .bool true) fun _ _ _ => False) ∧
        ∀ base : Heap, K.In base → base.Ns mainGlobals mg → ∀ TL, Tlam tf K mg base TL → GFn l.prog w K mg base k fa [x] (spV K TL 1 [] S)) :
    PySem.W.WalkO q loose XP YP l.row.toRowW d [] (fun f vs => PySem.call f vs) := by
  refine Att.attach_callB hn hdf fun w s0 s1 mg mb fa o pm cd doc a vs ns G Y ho hd hcd hmg hobj hints hlen hbits hg => ?_
  obtain ⟨K, tf, S, KX, t1, t2, t3, t4, hS, hF⟩ := F w mg fa _ Y G.T.g hmg
  exact law_endT KX G.T.g G.T.b G.T.builtins G.T.nolimit hg t1 t2 t3 t4 G.T.bmain hobj hints (Nat.le_trans hlen hn2) (groom_caller hr) hF (hS ns hlen hbits)
end Dv
/-! DvSd: sound data: laid plainly, not deep, not long. -/
namespace Dv
open PySem PySem.Spec PyProof.Rows L2 Ts
mutual
def lenB : Dt → Bool
  | .list ds => decide (ds.length ≤ 100000) && lenBs ds
  | .tuple ds => decide (ds.length ≤ 100000) && lenBs ds
  | .str z => decide (z.length ≤ 100000)
  | _ => true
def lenBs : List Dt → Bool
  | [] => true
  | d :: r => lenB d && lenBs r
end
theorem lenBs_all : ∀ ds : List Dt, lenBs ds = ds.all lenB
  | [] => by simp [lenBs]
  | d :: r => by rw [lenBs, lenBs_all r, List.all_cons]
structure Sn (n : Nat) (d : Dt) : Prop where
  lay : d.py.canLay0 = true
  dep : d.py.depth ≤ n
  len : lenB d = true
/-- sound -/
def Sd (d : Dt) : Prop := ∃ n, n ≤ 60 ∧ Sn n d
theorem lay_all : ∀ ds : List Dt, PyData.canLayAll0 (Dt.pyL ds) = ds.all fun d => d.py.canLay0
  | [] => by simp [Dt.pyL, PyData.canLayAll0]
  | d :: r => by rw [Dt.pyL, PyData.canLayAll0, lay_all r, List.all_cons]
theorem dep_all {n : Nat} : ∀ ds : List Dt, PyData.depthAll (Dt.pyL ds) ≤ n ↔ ∀ d ∈ ds, d.py.depth ≤ n
  | [] => by simp [Dt.pyL, PyData.depthAll]
  | d :: r => by
    rw [Dt.pyL, PyData.depthAll, Nat.max_le, dep_all r]
    simp
section
variable {n m : Nat} {d : Dt} {ds : List Dt}
theorem Sn.mono (h : Sn n d) (k : n ≤ m) : Sn m d := ⟨h.lay, Nat.le_trans h.dep k, h.len⟩
theorem Sn.int (i : Int) : Sn 0 (.int i) := ⟨by simp [Dt.py, PyData.canLay0], by simp [Dt.py, PyData.depth], by simp [lenB]⟩
theorem Sn.bool (b : Bool) : Sn 0 (.bool b) := ⟨by simp [Dt.py, PyData.canLay0], by simp [Dt.py, PyData.depth], by simp [lenB]⟩
theorem Sn.none : Sn 0 .none := ⟨by simp [Dt.py, PyData.canLay0], by simp [Dt.py, PyData.depth], by simp [lenB]⟩
theorem Sn.str {z : Str} (h : PyData.strOk z = true) (k : z.length ≤ 100000) : Sn 0 (.str z) := ⟨by simpa [Dt.py, PyData.canLay0] using h, by simp [Dt.py, PyData.depth], by simpa [lenB] using k⟩
theorem Sn.tup (h : ∀ d ∈ ds, Sn n d) (k : ds.length ≤ 100000) : Sn (n + 1) (.tuple ds) := by
  refine ⟨?_, ?_, ?_⟩
  · show (PyData.tuple (Dt.pyL ds)).canLay0 = true
    simp only [PyData.canLay0]
    rw [lay_all]
    exact List.all_eq_true.mpr fun d m => (h d m).lay
  · show (PyData.tuple (Dt.pyL ds)).depth ≤ n + 1
    simp only [PyData.depth]
    have := (dep_all (n := n) ds).mpr fun d m => (h d m).dep
    omega
  · simp only [lenB]
    rw [decide_eq_true k, lenBs_all]
    exact List.all_eq_true.mpr fun d m => (h d m).len
theorem Sn.lst (h : ∀ d ∈ ds, Sn n d) (k : ds.length ≤ 100000) : Sn (n + 1) (.list ds) := by
  refine ⟨?_, ?_, ?_⟩
  · show (PyData.list (Dt.pyL ds)).canLay0 = true
    simp only [PyData.canLay0]
    rw [lay_all]
    exact List.all_eq_true.mpr fun d m => (h d m).lay
  · show (PyData.list (Dt.pyL ds)).depth ≤ n + 1
    simp only [PyData.depth]
    have := (dep_all (n := n) ds).mpr fun d m => (h d m).dep
    omega
  · simp only [lenB]
    rw [decide_eq_true k, lenBs_all]
    exact List.all_eq_true.mpr fun d m => (h d m).len
theorem Sn.tup_in (h : Sn n (.tuple ds)) : ds.length ≤ 100000 ∧ ∀ d ∈ ds, Sn (n - 1) d := by
  obtain ⟨h1, h2, h3⟩ := h
  have h1 : (PyData.tuple (Dt.pyL ds)).canLay0 = true := h1
  have h2 : (PyData.tuple (Dt.pyL ds)).depth ≤ n := h2
  simp only [PyData.canLay0] at h1
  simp only [PyData.depth] at h2
  simp only [lenB, Bool.and_eq_true, decide_eq_true_eq] at h3
  rw [lay_all] at h1
  rw [lenBs_all] at h3
  have h4 := (dep_all (n := n - 1) ds).mp (by omega)
  exact ⟨h3.1, fun d m => ⟨List.all_eq_true.mp h1 d m, h4 d m, List.all_eq_true.mp h3.2 d m⟩⟩
theorem Sn.lst_in (h : Sn n (.list ds)) : ds.length ≤ 100000 ∧ ∀ d ∈ ds, Sn (n - 1) d := by
  obtain ⟨h1, h2, h3⟩ := h
  have h1 : (PyData.list (Dt.pyL ds)).canLay0 = true := h1
  have h2 : (PyData.list (Dt.pyL ds)).depth ≤ n := h2
  simp only [PyData.canLay0] at h1
  simp only [PyData.depth] at h2
  simp only [lenB, Bool.and_eq_true, decide_eq_true_eq] at h3
  rw [lay_all] at h1
  rw [lenBs_all] at h3
  have h4 := (dep_all (n := n - 1) ds).mp (by omega)
  exact ⟨h3.1, fun d m => ⟨List.all_eq_true.mp h1 d m, h4 d m, List.all_eq_true.mp h3.2 d m⟩⟩
theorem Sn.sd (h : Sn n d) (k : n ≤ 60 := by decide) : Sd d := ⟨n, k, h⟩
theorem Sd.plain (h : Sd d) : plain d = true := by
  obtain ⟨n, k, h⟩ := h
  show (_ && decide (_ ≤ 64)) = true
  rw [h.lay, decide_eq_true (show d.py.depth ≤ 64 from Nat.le_trans h.dep (by omega))]
  rfl
theorem Sd.ty (h : Sd d) : tyOk d = true := by
  obtain ⟨n, k, h⟩ := h
  have h := h.lay
  cases d <;> first | rfl | (cases h; done)
theorem Sd.tup_in (h : Sd (.tuple ds)) : ds.length ≤ 100000 ∧ ∀ d ∈ ds, Sd d := by
  obtain ⟨n, k, h⟩ := h
  obtain ⟨h1, h2⟩ := h.tup_in
  exact ⟨h1, fun d m => (h2 d m).sd (by omega)⟩
theorem Sd.lst_in (h : Sd (.list ds)) : ds.length ≤ 100000 ∧ ∀ d ∈ ds, Sd d := by
  obtain ⟨n, k, h⟩ := h
  obtain ⟨h1, h2⟩ := h.lst_in
  exact ⟨h1, fun d m => (h2 d m).sd (by omega)⟩
theorem Sd.int (i : Int) : Sd (.int i) := (Sn.int i).sd
theorem Sd.bool (b : Bool) : Sd (.bool b) := (Sn.bool b).sd
theorem Sd.none : Sd .none := Sn.none.sd
theorem Sd.str {z : Str} (h : PyData.strOk z = true) (k : z.length ≤ 100000) : Sd (.str z) := (Sn.str h k).sd
theorem Sd.dic_no {es : Kvs} (h : Sd (.dic es)) : False := by
  obtain ⟨n, k, h⟩ := h
  cases h.lay
theorem Sd.dct_no {es : List (List Key × Dt)} (h : Sd (.dct es)) : False := by
  obtain ⟨n, k, h⟩ := h
  cases h.lay
theorem Sd.ins_no {c : Str} {es : Fds} (h : Sd (.ins c es)) : False := by
  obtain ⟨n, k, h⟩ := h
  cases h.lay
theorem Sd.ref_no {a : Addr} (h : Sd (.ref a)) : False := by
  obtain ⟨n, k, h⟩ := h
  cases h.lay
theorem Sd.err_no {c : Str} (h : Sd (.err c)) : False := by
  obtain ⟨n, k, h⟩ := h
  cases h.lay
theorem Sd.lsF_no {c : List Int} (h : Sd (.lsF c)) : False := by
  obtain ⟨n, k, h⟩ := h
  cases h.lay
end
/-- a sound datum is of one of these forms -/
theorem Sd.cases {C : Dt → Prop} {d : Dt} (h : Sd d) (h1 : C .none) (h2 : ∀ b, C (.bool b)) (h3 : ∀ i, C (.int i)) (h4 : ∀ z, PyData.strOk z = true → C (.str z)) (h5 : ∀ ds, Sd (.list ds) → C (.list ds)) (h6 : ∀ ds, Sd (.tuple ds) → C (.tuple ds)) : C d := by
  cases d with
  | none => exact h1
  | bool b => exact h2 b
  | int i => exact h3 i
  | str z => exact h4 z (by have := h.plain; rwa [plain_str] at this)
  | list ds => exact h5 ds h
  | tuple ds => exact h6 ds h
  | dic es => exact h.dic_no.elim
  | dct es => exact h.dct_no.elim
  | ins c es => exact h.ins_no.elim
  | ref a => exact h.ref_no.elim
  | err c => exact h.err_no.elim
  | lsF c => exact h.lsF_no.elim
theorem eqv_nil_l (ds : List Dt) : eqD (.list ds) (.list []) = decide (ds = []) := by
  show PyData.eqv (.list (Dt.pyL ds)) (.list (Dt.pyL [])) = _
  rw [PyData.eqv]
  cases ds <;> simp [Dt.pyL, PyData.eqvAll]
theorem eqv_nil_t (ds : List Dt) : eqD (.tuple ds) (.tuple []) = decide (ds = []) := by
  show PyData.eqv (.tuple (Dt.pyL ds)) (.tuple (Dt.pyL [])) = _
  rw [PyData.eqv]
  cases ds <;> simp [Dt.pyL, PyData.eqvAll]
theorem plain_l0 : plain (.list []) = true := by decide +kernel
theorem plain_t0 : plain (.tuple []) = true := by decide +kernel
section
variable {d : Dt} {ds : List Dt}
theorem eq_p {a b : Dt} (h1 : plain a = true) (h2 : plain b = true) : gEq a b = some (.bool (eqD a b)) := if_pos ⟨h1, h2⟩
theorem ne_p {a b : Dt} (h1 : plain a = true) (h2 : plain b = true) : gNe a b = some (.bool (!eqD a b)) := if_pos ⟨h1, h2⟩
theorem eq_l0 (h : plain (.list ds) = true) : gEq (.list ds) (.list []) = some (.bool (decide (ds = []))) := by rw [eq_p h plain_l0, eqv_nil_l]
theorem eq_t0 (h : plain (.tuple ds) = true) : gEq (.tuple ds) (.tuple []) = some (.bool (decide (ds = []))) := by rw [eq_p h plain_t0, eqv_nil_t]
theorem ne_l0 (h : plain (.list ds) = true) : gNe (.list ds) (.list []) = some (.bool (!decide (ds = []))) := by rw [ne_p h plain_l0, eqv_nil_l]
theorem ne_t0 (h : plain (.tuple ds) = true) : gNe (.tuple ds) (.tuple []) = some (.bool (!decide (ds = []))) := by rw [ne_p h plain_t0, eqv_nil_t]
theorem Sd.tup {n : Nat} (h : ∀ d ∈ ds, Sn n d) (k : ds.length ≤ 100000) (hn : n ≤ 59) : Sd (.tuple ds) := (Sn.tup h k).sd (by omega)
theorem Sd.lst {n : Nat} (h : ∀ d ∈ ds, Sn n d) (k : ds.length ≤ 100000) (hn : n ≤ 59) : Sd (.list ds) := (Sn.lst h k).sd (by omega)
theorem Sd.ints {ns : List Int} (k : ns.length ≤ 100000) : Sd (.tuple (ns.map .int)) := Sd.tup (n := 0) (fun d m => by
  obtain ⟨i, _, rfl⟩ := List.mem_map.mp m
  exact Sn.int i) (by rw [List.length_map]; exact k) (by decide)
theorem Sd.intsL {ns : List Int} (k : ns.length ≤ 100000) : Sd (.list (ns.map .int)) := Sd.lst (n := 0) (fun d m => by
  obtain ⟨i, _, rfl⟩ := List.mem_map.mp m
  exact Sn.int i) (by rw [List.length_map]; exact k) (by decide)
end
end Dv
/-! DvTup: a tuple many times over. -/
namespace Ts
open PySem PySem.Spec PyProof.Rows L2 Ts Meets Builtin
theorem tuple_mulSame (l : Addr) (items : Array Value) (n : Nat) (dd : Option Addr) (sl : Array (Option Value)) (x : Int) (u : Tok) (c0 : (decide (x < -(2 ^ 63)) || decide (x ≥ 2 ^ 63)) = false) (c1 : (items.isEmpty || x == 1) = true) :
    Meets (Builtin.«tuple.__mul__» ⟨[.ref l, .int x u], []⟩) (fun _ R s => s.heap.get? l = some { cls := .type "tuple", dict := dd, data := .seq items n, slots := sl } ∧ R (.ok (.ret (Value.ref l))) s) :=
  .of_wp fun prog w A R s h => by
    obtain ⟨hp, g, d, tk, os⟩ := s
    obtain ⟨hl, h⟩ := h
    have f1 := AutoSeq1.idx_int
    wp_walk using AutoSeq1.wpAny_loadPart' hl
    repeat (first
      | (refine wpAny_ite_false (decide_eq_false (by rw [c0]; exact Bool.false_ne_true)) ?_; wp_walk using AutoSeq1.wpAny_loadPart' hl)
      | (refine wpAny_ite_true (decide_eq_true c1) ?_; wp_walk using AutoSeq1.wpAny_loadPart' hl))
    exact ⟨_, rfl, h⟩
/-- t * k, k from 0 -/
def rTupAll (K : PySem.W.Frag) : R2 := fun x y H Q => ∃ (l : Addr) (k : Int) (xs : List V), x = .ref l ∧ y = .int k ∧ SqT K H l xs ∧ 0 ≤ k ∧ k ≤ 1000 ∧ xs.length ≤ 1000 ∧
  ((xs = [] ∨ k = 1) → Q (.ref l) H) ∧ ∀ p, H p = none → Q (.ref p) (upd H p (.tup (List.replicate k.toNat xs).flatten))
theorem op_tupAll {X : Cx} : OpR X (binaryOp .Mult) (rTupAll X.K) := by
  intro pins s σ H x y v u Q I rx ry h
  obtain ⟨l, k, xs, rfl, rfl, hT, h0, h1, hz, q1, q⟩ := h
  by_cases e : xs = [] ∨ k = 1
  · have q2 := q1 e
    cases rx
    obtain ⟨t, rfl⟩ := ry
    obtain ⟨its, r, ⟨⟨cls, dd, data, sl⟩, ho, hc, n, hd⟩, hs⟩ := I.tuple hT
    simp only at hc hd
    subst hc hd
    have c0 : (decide (k < -(2 ^ 63)) || decide (k ≥ 2 ^ 63)) = false := by
      rw [decide_eq_false (by omega), decide_eq_false (by omega)]
      rfl
    have c1 : (its.toArray.isEmpty || k == 1) = true := by
      rcases e with rfl | rfl
      · cases r
        rfl
      · simp
    exact wpAny_binaryOp_repeat_ref (T := "tuple") (U := "int") (by decide) ⟨_, ho, rfl⟩ (fun t1 => typeIs_int t1 k t) noFill_tuple_mul F.fills_int_mul F.slot_int_rmul repeat_tuple F.slot_int_index.lookup
      (call_meets F.slot_int_rmul (typeIs_int s k t) F.entry_int_rmul (F.args_int_rmul_2 _ _) (int_rmul_tuple k t l its.toArray n dd sl)
        ⟨ho, rfl, ⟨_, ho, rfl⟩, call_meets F.slot_tuple_mul ⟨_, ho, rfl⟩ F.entry_tuple_mul (F.args_tuple_mul_2 _ _) (tuple_mulSame l its.toArray n dd sl k t c0 c1) ⟨ho, ⟨.ref l, H, I, rfl, q2⟩⟩⟩)
  · have ne : xs ≠ [] := fun z => e (.inl z)
    by_cases hk : k = 0
    · subst hk
      cases rx
      obtain ⟨t, rfl⟩ := ry
      obtain ⟨its, r, ⟨⟨cls, dd, data, sl⟩, ho, hc, n, hd⟩, hs⟩ := I.tuple hT
      simp only at hc hd
      subst hc hd
      have hi : its.toArray.isEmpty = false := by
        cases its with
        | nil =>
          cases r
          exact absurd rfl ne
        | cons a b => rfl
      refine wpAny_binaryOp_repeat_ref (T := "tuple") (U := "int") (by decide) ⟨_, ho, rfl⟩ (fun t1 => typeIs_int t1 0 t)
        noFill_tuple_mul F.fills_int_mul F.slot_int_rmul repeat_tuple F.slot_int_index.lookup
        (call_meets F.slot_int_rmul (typeIs_int s 0 t) F.entry_int_rmul (F.args_int_rmul_2 _ _)
          (int_rmul_tuple 0 t l its.toArray n dd sl)
          ⟨ho, rfl, ⟨_, ho, rfl⟩, call_meets F.slot_tuple_mul ⟨_, ho, rfl⟩ F.entry_tuple_mul (F.args_tuple_mul_2 _ _)
            (tuple_mulNone l its.toArray n dd sl t hi) ⟨ho, ?_⟩⟩)
      have hn : H s.heap.objs.size = none := I.hok.fresh (Nat.le_refl _)
      exact ⟨.ref s.heap.objs.size, _, I.laid (t' := s.toks) (o := .tup []) (fun b ob q => Heap.get?_push_of_some _ q) (Nat.le_refl _) ⟨Nat.zero_le _, [], .nil, IsTup.new _ _⟩, rfl, q _ hn⟩
    · refine op_repT pins s σ H _ _ v u Q I rx ry ⟨l, k, xs, rfl, rfl, hT, ne, ?_, h1, hz, q⟩
      have : k ≠ 1 := fun z => e (.inr z)
      omega
end Ts
namespace Dv
open PySem PySem.Spec PyProof.Rows L2 Ts
theorem rep_flat0 (n : Nat) : (List.replicate n ([] : List Dt)).flatten = [] := by
  induction n with
  | zero => rfl
  | succ n ih => rw [List.replicate_succ, List.flatten_cons, ih]; rfl
theorem oRepT {X : Cx} : OpV X (binaryOp .Mult) gRepT := by
  refine ⟨_, op_tupAll, fun B H v u x y d Q bh hx hy hd k => ?_⟩
  unfold gRepT at hd
  split at hd
  · rename_i a n
    split at hd
    · rename_i c
      cases hd
      cases hy.int
      have same : ∀ {ad xs}, SqT X.K B ad xs → FzA X.K B xs a → xs = [] ∨ n = 1 → Q (.ref ad) H := fun {ad xs} h1 z e => by
        refine k _ B H (Gr.refl bh) ?_
        rcases e with rfl | rfl
        · cases z
          rw [rep_flat0]
          exact .tup h1 .nil
        · rw [show (List.replicate (Int.toNat 1) a).flatten = a from by simp]
          exact .tup h1 z
      rcases hx with h | ⟨b, rfl, h⟩
      · cases h with
        | tup h1 z =>
          rename_i ad xs
          exact ⟨ad, n, xs, rfl, rfl, (ex_sb bh).t _ _ h1, c.1, c.2.1, by rw [z.len]; exact c.2.2, same h1 z, fun p hp => k _ _ _ (Gr.new bh hp) (.tup (SqT.of upd_same) ((z.rep _).ex (Gr.new (o := .tup _) bh hp).k1))⟩
      · cases h
    · cases hd
  · cases hd
theorem rep_t {a : List Dt} {n : Int} (h : 0 ≤ n ∧ n ≤ 1000 ∧ a.length ≤ 1000) : gRepT (.tuple a) (.int n) = some (.tuple (List.replicate n.toNat a).flatten) := if_pos h
end Dv
/-! DvSeq: rows of numbers made of ranges and sets. -/
namespace Dv
open PySem PySem.Spec PyProof.Rows L2 Ts
/-- list(range(n)) -/
def wListRg (fa : Wt Dt) : Wt Dt := fun s P E => fa s (fun d s1 => ∃ n : Int, d = .int n ∧ (0 ≤ n ∧ n ≤ 100000) ∧ P (.list ((List.range n.toNat).map fun (i : Nat) => .int (i : Int))) s1) E
theorem rgV_nat {n : Int} : rgV 0 n = ((List.range n.toNat).map fun (i : Nat) => (i : Int)).map V.int := by
  unfold rgV
  rw [List.map_map, show (n - 0).toNat = n.toNat from by omega]
  refine List.map_congr_left fun i _ => ?_
  show V.int (0 + (i : Int)) = V.int (i : Int)
  rw [Int.zero_add]
theorem vn_listRg {X : Cx} {c : Vc} {a : Expr} {fa : Wt Dt} {p p2 pos pos2 : Pos} (hm : X.mg "range" = none) (hm2 : X.mg "list" = none) (ha : VX X c a fa) (hc : X.calm = true := by rfl) (hg : Gl X "range" := by rfl) (hg2 : Gl X "list" := by rfl)
    (n1 : starEach [a] X.env = (false, eval a X.env) :: starEach [] X.env := by rfl)
    (n2 : starEach [.Call (.Name "range" p2) [a] [] pos2] X.env = (false, eval (.Call (.Name "range" p2) [a] [] pos2) X.env) :: starEach [] X.env := by rfl) :
    VN X c (.Call (.Name "list" p) [.Call (.Name "range" p2) [a] [] pos2] [] pos) (wListRg fa) := by
  obtain ⟨ta, a1, a2⟩ := ha
  refine ⟨_, pe_listRg hc hg2 hm2 (prg_1 hg hm a1 n1) n2, ?_⟩
  intro F B s σ H Q P E r hf k kx
  refine a2 F B s σ H _ _ E r hf (fun d s1 v B1 H1 p1 r1 e1 z1 => ?_) kx
  obtain ⟨n, rfl, ⟨h0, h1⟩, q⟩ := p1
  cases z1
  refine ⟨n, rfl, ⟨by omega, by omega, by omega, by omega, by omega⟩, fun l hl => ?_⟩
  rw [rgV_nat]
  refine k _ s1 l _ _ q (r1.temp (o := .lst _) hl rfl) e1 (.lst upd_same ?_)
  have := FzA.ints (K := X.K) (B := B1) ((List.range n.toNat).map fun (i : Nat) => (i : Int))
  rwa [List.map_map (g := Dt.int)] at this
end Dv
namespace Dv
open PySem PySem.Spec PyProof.Rows L2 Ts
/-! ### sorted(set(t)), t a tuple of ints -/
def insU (k : Int) : List Int → List Int
  | [] => [k]
  | x :: r => if k < x then k :: x :: r else if k = x then x :: r else x :: insU k r
def usort (ns : List Int) : List Int := ns.foldr insU []
theorem mem_insU {k j : Int} : ∀ {l : List Int}, j ∈ insU k l ↔ j = k ∨ j ∈ l
  | [] => by simp [insU]
  | x :: r => by
    unfold insU
    split
    · simp
    · split
      · rename_i h
        subst h
        simp
      · rw [List.mem_cons, mem_insU, List.mem_cons]
        constructor
        · rintro (h | h | h)
          · exact .inr (.inl h)
          · exact .inl h
          · exact .inr (.inr h)
        · rintro (h | h | h)
          · exact .inr (.inl h)
          · exact .inl h
          · exact .inr (.inr h)
theorem insU_lt {k : Int} : ∀ {l : List Int}, l.Pairwise (· < ·) → (insU k l).Pairwise (· < ·)
  | [], _ => by simp [insU]
  | x :: r, h => by
    rw [List.pairwise_cons] at h
    unfold insU
    split
    · rename_i hk
      refine List.pairwise_cons.mpr ⟨fun y m => ?_, List.pairwise_cons.mpr h⟩
      rcases List.mem_cons.mp m with rfl | m
      · exact hk
      · have := h.1 y m
        omega
    · split
      · exact List.pairwise_cons.mpr h
      · rename_i h1 h2
        refine List.pairwise_cons.mpr ⟨fun y m => ?_, insU_lt h.2⟩
        rcases mem_insU.mp m with rfl | m
        · omega
        · exact h.1 y m
theorem mem_usort {j : Int} : ∀ {l : List Int}, j ∈ usort l ↔ j ∈ l
  | [] => by simp [usort]
  | x :: r => by
    show j ∈ insU x (usort r) ↔ _
    rw [mem_insU, mem_usort, List.mem_cons]
theorem usort_lt : ∀ l : List Int, (usort l).Pairwise (· < ·)
  | [] => .nil
  | x :: r => insU_lt (usort_lt r)
theorem lt_unique : ∀ {a b : List Int}, a.Pairwise (· < ·) → b.Pairwise (· < ·) → (∀ k, k ∈ a ↔ k ∈ b) → a = b
  | [], [], _, _, _ => rfl
  | [], y :: b, _, _, h => absurd ((h y).mpr List.mem_cons_self) (by simp)
  | x :: a, [], _, _, h => absurd ((h x).mp List.mem_cons_self) (by simp)
  | x :: a, y :: b, ha, hb, h => by
    rw [List.pairwise_cons] at ha hb
    have e : x = y := by
      rcases List.mem_cons.mp ((h x).mp List.mem_cons_self) with e | m
      · exact e
      · rcases List.mem_cons.mp ((h y).mpr List.mem_cons_self) with e | m2
        · exact e.symm
        · have := hb.1 x m
          have := ha.1 y m2
          omega
    subst e
    rw [lt_unique ha.2 hb.2 fun k => ?_]
    constructor
    · intro m
      rcases List.mem_cons.mp ((h k).mp (List.mem_cons_of_mem _ m)) with e | m2
      · have := ha.1 k m
        omega
      · exact m2
    · intro m
      rcases List.mem_cons.mp ((h k).mpr (List.mem_cons_of_mem _ m)) with e | m2
      · have := hb.1 k m
        omega
      · exact m2
theorem usort_of {a b : List Int} (ha : a.Pairwise (· < ·)) (h : ∀ k, k ∈ a ↔ k ∈ b) : a = usort b := lt_unique ha (usort_lt b) fun k => (h k).trans mem_usort.symm
theorem usort_self {a : List Int} (ha : a.Pairwise (· < ·)) : usort a = a := (usort_of ha fun _ => Iff.rfl).symm
def wSortedSet (fa : Wt Dt) : Wt Dt := fun s P E => fa s (fun d s1 => ∃ ns : List Int, d = .tuple (ns.map .int) ∧ ns.length ≤ 1000 ∧ P (.list ((usort ns).map .int)) s1) E
theorem vn_sortedSet {X : Cx} {c : Vc} {a : Expr} {fa : Wt Dt} {p p2 pos pos2 : Pos} (hm : X.mg "sorted" = none) (hm2 : X.mg "set" = none) (ha : VX X c a fa) (hc : X.calm = true := by rfl) (hg : Gl X "sorted" := by rfl) (hg2 : Gl X "set" := by rfl)
    (n1 : starEach [a] X.env = (false, eval a X.env) :: starEach [] X.env := by rfl)
    (n2 : starEach [.Call (.Name "set" p2) [a] [] pos2] X.env = (false, eval (.Call (.Name "set" p2) [a] [] pos2) X.env) :: starEach [] X.env := by rfl)
    (n3 : (backTo pos2 (starEach [] X.env)).any (·.1) = false := by rfl) (n4 : (backTo pos (starEach [] X.env)).any (·.1) = false := by rfl) :
    VN X c (.Call (.Name "sorted" p) [.Call (.Name "set" p2) [a] [] pos2] [] pos) (wSortedSet fa) := by
  obtain ⟨ta, a1, a2⟩ := ha
  refine ⟨_, pe_callB (cr_sortedSetN hc) hg hm (by decide +kernel) (pa_cons (pe_callTy (cr_setT hc) hg2 hm2 (by decide +kernel) (pa_cons a1 pa_nil n1) (by decide) (by decide) n1 n3) pa_nil n2) (by decide) (by decide) n2 n4, ?_⟩
  intro F B s σ H Q P E r hf k kx
  refine a2 F B s σ H _ _ E r hf (fun d s1 v B1 H1 p1 r1 e1 z1 => ?_) kx
  obtain ⟨ns, rfl, hl, q⟩ := p1
  cases z1 with
  | tup hs ha =>
    rename_i ad xs
    have ex : xs = ns.map V.int := ha.of_ints
    subst ex
    refine ⟨ad, ns, rfl, (ex_sb r1.bh).t _ _ hs, hl, fun p cc hp hcc => ?_⟩
    have r2 := r1.step (H' := upd H1 p (SetO X.w p (fun j => decide (j ∈ ns)) cc)) (Evl.Ex.refl _) (Evl.Ex.trans r1.bh (ex_new hp)) (fun _ _ => rfl) (ex_new hp)
    refine ⟨p, _, cc, rfl, upd_same, by omega, fun ns2 p2 hpw hmem hlen hp2 => ?_⟩
    have e2 : ns2 = usort ns := usort_of hpw fun k => by rw [hmem k, decide_eq_true_eq]
    subst e2
    exact k _ s1 p2 _ _ q (r2.temp (o := .lst _) hp2 rfl) e1 (.lst upd_same (FzA.ints _))
/-! ### reading -/
section
variable {fa : Wt Dt} {s s1 : Sl} {P : PD} {E : PEr} {n : Int} {ns : List Int}
def kListRg (P : PD) (d : Dt) (s1 : Sl) : Prop := ∃ n : Int, d = .int n ∧ (0 ≤ n ∧ n ≤ 100000) ∧ P (.list ((List.range n.toNat).map fun (i : Nat) => .int (i : Int))) s1
theorem e_ListRg : wListRg fa s P E = fa s (kListRg P) E := rfl
theorem e_kListRg : kListRg P (.int n) s1 = ((0 ≤ n ∧ n ≤ 100000) ∧ P (.list ((List.range n.toNat).map fun (i : Nat) => .int (i : Int))) s1) := by
  apply propext
  constructor
  · rintro ⟨m, e, h⟩
    cases e
    exact h
  · intro h
    exact ⟨n, rfl, h⟩
theorem ints_inj : ∀ {a b : List Int}, a.map Dt.int = b.map Dt.int → a = b
  | [], [], _ => rfl
  | [], _ :: _, h => by cases h
  | _ :: _, [], h => by cases h
  | x :: r, y :: q, h => by
    rw [List.map_cons, List.map_cons] at h
    injection h with h1 h2
    cases h1
    rw [ints_inj h2]
def kSortedSet (P : PD) (d : Dt) (s1 : Sl) : Prop := ∃ ns : List Int, d = .tuple (ns.map .int) ∧ ns.length ≤ 1000 ∧ P (.list ((usort ns).map .int)) s1
theorem e_kSortedSet : kSortedSet P (.tuple (ns.map .int)) s1 = (ns.length ≤ 1000 ∧ P (.list ((usort ns).map .int)) s1) := by
  apply propext
  constructor
  · rintro ⟨ms, e, h⟩
    have e : ns = ms := ints_inj (by injection e)
    subst e
    exact h
  · intro h
    exact ⟨ns, rfl, h⟩
theorem insU_len {k : Int} : ∀ l : List Int, (insU k l).length ≤ l.length + 1
  | [] => by simp [insU]
  | x :: r => by
    unfold insU
    split
    · simp
    · split
      · simp
      · have := insU_len (k := k) r
        simp only [List.length_cons]
        omega
theorem usort_len : ∀ l : List Int, (usort l).length ≤ l.length
  | [] => by simp [usort]
  | x :: r => by
    have h1 := insU_len (k := x) (usort r)
    have h2 := usort_len r
    show (insU x (usort r)).length ≤ _
    simp only [List.length_cons]
    omega
theorem e_SortedSet : wSortedSet fa s P E = fa s (kSortedSet P) E := rfl
theorem rg0 {n : Nat} : rgD 0 n = (List.range n).map fun (i : Nat) => .int (i : Int) := by
  unfold rgD
  refine List.map_congr_left fun i _ => ?_
  show Dt.int (0 + (i : Int)) = Dt.int (i : Int)
  rw [Int.zero_add]
theorem zpI : ∀ (xs ys : List Int), zpD (xs.map .int) (ys.map .int) = (xs.zip ys).map fun p => .tuple [.int p.1, .int p.2]
  | [], _ => by simp [zpD]
  | _ :: _, [] => by simp [zpD]
  | x :: xs, y :: ys => by
    have := zpI xs ys
    unfold zpD at this ⊢
    simpa using this
theorem zipAdd (xs ys : List Int) : ((xs.zip ys).map fun p => Dt.int (p.1 + p.2)) = (List.zipWith (· + ·) xs ys).map .int := by
  induction xs generalizing ys with
  | nil => rfl
  | cons x r ih =>
    cases ys with
    | nil => rfl
    | cons y q => simpa using ih q
end
end Dv
namespace Dv
open PySem PySem.Spec PyProof.Rows L2 Ts
/-! ### x[i] = e, x a list of its own -/
def sSetI (fo : Wt ArgV) (fi fe : Wt Dt) : Ws := fun s V => fe s (fun d s1 => fo s1 (fun h s2 => (plc h).isSome = true ∧ fi s2 (fun k s3 => ∃ ds n j, valOf s3 h = some (.list ds) ∧ k = .int n ∧ ixN ds.length n = some j ∧ V.nx (putA s3 h (.list (ds.set j d)))) V.er) V.er) V.er
theorem vs_setI {X : Cx} {c : Vc} {a b e : Expr} {st : Stmt} {fo : Wt ArgV} {fi fe : Wt Dt} (ho : VL X c a fo) (hi : VX X c b fi) (he : VX X c e fe) (h : ∀ {ta tb te : TE}, PE X a ta → PE X b tb → PE X e te → PS X st (tAsg te (L2.gSub ta tb rSetL))) : VS X c st (sSetI fo fi fe) := by
  obtain ⟨to, o1, o2⟩ := ho
  obtain ⟨ti, i1, i2⟩ := hi
  obtain ⟨te, e1, e2⟩ := he
  refine ⟨_, h o1 i1 e1, ?_⟩
  intro F B s σ H D V r hf k
  refine e2 F B s σ H _ _ _ r hf (fun d s1 v B1 H1 p1 r1 x1 z1 => ?_) (k.er σ)
  refine o2 F B1 s1 σ H1 _ _ _ r1 p1 (fun hd s2 u B2 H2 p2 r2 x2 z2 => ?_) (k.er σ)
  obtain ⟨hp, p2⟩ := p2
  refine i2 F B2 s2 σ H2 _ _ _ r2 p2 (fun kd s3 w B3 H3 p3 r3 x3 z3 => ?_) (k.er σ)
  obtain ⟨ds, n, j, hval, rfl, hj, q⟩ := p3
  cases z3
  obtain ⟨ad, rfl, own, chg⟩ := r3.chgA (z2.ex x3) hval hp
  cases own with
  | lst hl ha =>
    rename_i xs
    have zd := (z1.ex x2).ex x3
    refine ⟨ad, xs, n, j, rfl, rfl, hl, by rw [ha.len]; exact hj, ?_⟩
    exact k.nx _ _ _ _ q (chg _ _ (fun y ny => upd_ne ny) (.lst upd_same (ha.set zd j))) (Evl.Ex.trans x1 (Evl.Ex.trans x2 x3))
section
variable {fo : Wt ArgV} {fi fe : Wt Dt} {s s1 s2 s3 : Sl} {V : VEnds} {d : Dt} {h : ArgV} {n : Int} {ds : List Dt} {j : Nat}
def kSI5 (d : Dt) (V : VEnds) (h : ArgV) (s3 : Sl) (ds : List Dt) (j : Nat) : Prop := V.nx (putA s3 h (.list (ds.set j d)))
def kSI4 (d : Dt) (V : VEnds) (h : ArgV) (s3 : Sl) (n : Int) (ds : List Dt) : Prop := bO (ixN ds.length n) (kSI5 d V h s3 ds)
def kSI3 (d : Dt) (V : VEnds) (h : ArgV) (s3 : Sl) (n : Int) : Prop := bO ((valOf s3 h).bind lstOf) (kSI4 d V h s3 n)
def kSI2 (d : Dt) (V : VEnds) (h : ArgV) (k : Dt) (s3 : Sl) : Prop := bO (intOf k) (kSI3 d V h s3)
def kSI1 (fi : Wt Dt) (d : Dt) (V : VEnds) (h : ArgV) (s2 : Sl) : Prop := (plc h).isSome = true ∧ fi s2 (kSI2 d V h) V.er
def kSI0 (fo : Wt ArgV) (fi : Wt Dt) (V : VEnds) (d : Dt) (s1 : Sl) : Prop := fo s1 (kSI1 fi d V) V.er
theorem e_SI : sSetI fo fi fe s V = fe s (kSI0 fo fi V) V.er := by
  have e2 : ∀ d h, (fun (k : Dt) (s3 : Sl) => ∃ ds n j, valOf s3 h = some (.list ds) ∧ k = .int n ∧ ixN ds.length n = some j ∧ V.nx (putA s3 h (.list (ds.set j d)))) = kSI2 d V h := by
    intro d h
    funext k s3
    unfold kSI2
    rw [intOf_eq]
    apply propext
    constructor
    · rintro ⟨ds, n, j, e1, rfl, e3, q⟩
      exact ⟨n, rfl, ds, by rw [e1]; rfl, j, e3, q⟩
    · rintro ⟨n, rfl, ds, e1, j, e3, q⟩
      refine ⟨ds, n, j, ?_, rfl, e3, q⟩
      cases z : valOf s3 h with
      | none => rw [z] at e1; cases e1
      | some y =>
        rw [z] at e1
        have e1 : lstOf y = some ds := e1
        cases y <;> first | (cases e1; done) | skip
        cases e1
        rfl
  have : (fun (d : Dt) (s1 : Sl) => fo s1 (fun h s2 => (plc h).isSome = true ∧ fi s2 (fun k s3 => ∃ ds n j, valOf s3 h = some (.list ds) ∧ k = .int n ∧ ixN ds.length n = some j ∧ V.nx (putA s3 h (.list (ds.set j d)))) V.er) V.er) = kSI0 fo fi V := by
    funext d s1
    unfold kSI0
    congr 1
    funext h s2
    rw [e2 d h]
    rfl
  show fe s _ V.er = _
  rw [this]
theorem e_kSI0 : kSI0 fo fi V d s1 = fo s1 (kSI1 fi d V) V.er := rfl
theorem e_kSI1 : kSI1 fi d V h s2 = ((plc h).isSome = true ∧ fi s2 (kSI2 d V h) V.er) := rfl
theorem e_kSI2 {k : Dt} : kSI2 d V h k s3 = bO (intOf k) (kSI3 d V h s3) := rfl
theorem e_kSI3 : kSI3 d V h s3 n = bO ((valOf s3 h).bind lstOf) (kSI4 d V h s3 n) := rfl
theorem e_kSI4 : kSI4 d V h s3 n ds = bO (ixN ds.length n) (kSI5 d V h s3 ds) := rfl
theorem e_kSI5 : kSI5 d V h s3 ds j = V.nx (putA s3 h (.list (ds.set j d))) := rfl
theorem ixN_i (h0 : 0 ≤ n) (h1 : n < ds.length) : ixN ds.length n = some n.toNat := by
  unfold ixN
  rw [if_pos h0, if_pos h1]
end
end Dv
/-! DvGd: data that are sound and may be shown. -/
namespace Dv
open PySem PySem.Spec PyProof.Rows L2 Ts
structure Rp (w n : Nat) (d : Dt) : Prop where
  sh : d.py.showable = true
  len : d.py.shown.length ≤ w
  dep : d.py.depth ≤ n
  nd : d.py.hasDict = false
theorem Rp.rep {w n : Nat} {d : Dt} (h : Rp w n d) (hw : w ≤ 1000000 := by decide) (hn : n ≤ 50 := by decide) : gRepr d = some (.str d.py.shown) := by
  refine if_pos ?_
  unfold reprOk
  have h1 := h.len
  have h2 := h.dep
  rw [h.sh, h.nd, decide_eq_true (show d.py.depth ≤ 50 by omega), decide_eq_true (show d.py.shown.length ≤ 1000000 by omega)]
  rfl
theorem Rp.mono {w w' n n' : Nat} {d : Dt} (h : Rp w n d) (hw : w ≤ w') (hn : n ≤ n') : Rp w' n' d := ⟨h.sh, Nat.le_trans h.len hw, Nat.le_trans h.dep hn, h.nd⟩
theorem Rp.int {i : Int} (h : i.natAbs < 10 ^ 31) : Rp 32 0 (.int i) :=
  ⟨showable_of (.int i) (decide_eq_true h), shown_up (.int i) (decide_eq_true h), by simp [Dt.py, PyData.depth], rfl⟩
theorem Rp.bool (b : Bool) : Rp 32 0 (.bool b) :=
  ⟨rfl, Nat.le_trans (shown_up (.bool b) rfl) (by show 5 ≤ 32; decide), by simp [Dt.py, PyData.depth], rfl⟩
theorem Rp.none : Rp 32 0 .none :=
  ⟨rfl, Nat.le_trans (shown_up .none rfl) (by show 4 ≤ 32; decide), by simp [Dt.py, PyData.depth], rfl⟩
theorem Rp.str {z : Str} (h : PyData.strOk z = true) : Rp (10 * z.length + 2) 0 (.str z) := by
  refine ⟨rfl, ?_, by simp [Dt.py, PyData.depth], rfl⟩
  show (PyData.str z).shown.length ≤ _
  simp only [PyData.shown]
  refine PySem.StrLaws.reprText_len z fun c hc => ?_
  have h : z.cps.all (· < 0x110000) = true := h
  rw [← Array.all_toList, List.all_eq_true] at h
  have := of_decide_eq_true (h c hc)
  omega
theorem show_all {ds : List Dt} : PyData.showableAll (Dt.pyL ds) = ds.all fun d => d.py.showable := by
  induction ds with
  | nil => rfl
  | cons d r ih => rw [Dt.pyL, PyData.showableAll, ih, List.all_cons]
theorem nd_all {ds : List Dt} : PyData.hasDictAll (Dt.pyL ds) = ds.any fun d => d.py.hasDict := by
  induction ds with
  | nil => rfl
  | cons d r ih => rw [Dt.pyL, PyData.hasDictAll, ih, List.any_cons]
theorem piled_all {w : Nat} : ∀ {ds : List Dt}, (∀ d ∈ ds, d.py.shown.length ≤ w) → piled (PyData.shownAll (Dt.pyL ds)) ≤ (w + 2) * ds.length
  | [], _ => Nat.le_refl _
  | d :: r, h => by
    have h1 := h d List.mem_cons_self
    have h2 := piled_all (ds := r) fun d m => h d (List.mem_cons_of_mem _ m)
    simp only [Dt.pyL, PyData.shownAll]
    rw [piled_cons, List.length_cons, Nat.mul_succ]
    omega
section
variable {w n : Nat} {ds : List Dt} {d : Dt}
theorem Rp.tup (h : ∀ d ∈ ds, Rp w n d) : Rp ((w + 2) * ds.length + 4) (n + 1) (.tuple ds) := by
  have h1 := piled_all fun d m => (h d m).len
  refine ⟨?_, ?_, ?_, ?_⟩
  · show (PyData.tuple (Dt.pyL ds)).showable = true
    simp only [PyData.showable]
    rw [show_all]
    exact List.all_eq_true.mpr fun d m => (h d m).sh
  · show (PyData.tuple (Dt.pyL ds)).shown.length ≤ _
    simp only [PyData.shown]
    have := tuple_up (PyData.shownAll (Dt.pyL ds))
    omega
  · show (PyData.tuple (Dt.pyL ds)).depth ≤ n + 1
    simp only [PyData.depth]
    have := (dep_all (n := n) ds).mpr fun d m => (h d m).dep
    omega
  · show (PyData.tuple (Dt.pyL ds)).hasDict = false
    simp only [PyData.hasDict]
    rw [nd_all]
    exact List.any_eq_false.mpr fun d m => by rw [(h d m).nd]; decide
theorem Rp.lst (h : ∀ d ∈ ds, Rp w n d) : Rp ((w + 2) * ds.length + 4) (n + 1) (.list ds) := by
  have h1 := piled_all fun d m => (h d m).len
  refine ⟨?_, ?_, ?_, ?_⟩
  · show (PyData.list (Dt.pyL ds)).showable = true
    simp only [PyData.showable]
    rw [show_all]
    exact List.all_eq_true.mpr fun d m => (h d m).sh
  · show (PyData.list (Dt.pyL ds)).shown.length ≤ _
    simp only [PyData.shown]
    have := list_up (PyData.shownAll (Dt.pyL ds))
    omega
  · show (PyData.list (Dt.pyL ds)).depth ≤ n + 1
    simp only [PyData.depth]
    have := (dep_all (n := n) ds).mpr fun d m => (h d m).dep
    omega
  · show (PyData.list (Dt.pyL ds)).hasDict = false
    simp only [PyData.hasDict]
    rw [nd_all]
    exact List.any_eq_false.mpr fun d m => by rw [(h d m).nd]; decide
end
/-- sound, and may be shown -/
structure Gd (w n : Nat) (d : Dt) : Prop where
  s : Sn n d
  r : Rp w n d
section
variable {w w' n n' m : Nat} {ds : List Dt} {d : Dt}
theorem Gd.mono (h : Gd w n d) (hw : w ≤ w' := by decide) (hn : n ≤ n' := by decide) : Gd w' n' d := ⟨h.s.mono hn, h.r.mono hw hn⟩
theorem Gd.int {i : Int} (h : i.natAbs < 10 ^ 31) : Gd 32 0 (.int i) := ⟨.int i, .int h⟩
theorem Gd.bool (b : Bool) : Gd 32 0 (.bool b) := ⟨.bool b, .bool b⟩
theorem Gd.none : Gd 32 0 .none := ⟨.none, .none⟩
theorem Gd.str {z : Str} (h : PyData.strOk z = true) (k : z.length ≤ m) (hm : m ≤ 100000 := by decide) : Gd (10 * m + 2) 0 (.str z) := ⟨.str h (by omega), (Rp.str h).mono (by omega) (Nat.le_refl _)⟩
theorem Gd.tup (h : ∀ d ∈ ds, Gd w n d) (k : ds.length ≤ m) (hm : m ≤ 100000 := by decide) : Gd ((w + 2) * m + 4) (n + 1) (.tuple ds) :=
  ⟨.tup (fun d z => (h d z).s) (by omega), (Rp.tup fun d z => (h d z).r).mono (Nat.add_le_add_right (Nat.mul_le_mul_left _ k) _) (Nat.le_refl _)⟩
theorem Gd.lst (h : ∀ d ∈ ds, Gd w n d) (k : ds.length ≤ m) (hm : m ≤ 100000 := by decide) : Gd ((w + 2) * m + 4) (n + 1) (.list ds) :=
  ⟨.lst (fun d z => (h d z).s) (by omega), (Rp.lst fun d z => (h d z).r).mono (Nat.add_le_add_right (Nat.mul_le_mul_left _ k) _) (Nat.le_refl _)⟩
theorem Gd.sd (h : Gd w n d) (hn : n ≤ 60 := by decide) : Sd d := h.s.sd hn
theorem Gd.rep (h : Gd w n d) (hw : w ≤ 1000000 := by decide) (hn : n ≤ 50 := by decide) : gRepr d = some (.str d.py.shown) := h.r.rep hw hn
theorem Gd.ints {ns : List Int} (h : ∀ i ∈ ns, i.natAbs < 10 ^ 31) (k : ns.length ≤ m) (hm : m ≤ 100000 := by decide) : Gd (34 * m + 4) 1 (.tuple (ns.map .int)) :=
  Gd.tup (w := 32) (n := 0) (fun d z => by
    obtain ⟨i, hi, rfl⟩ := List.mem_map.mp z
    exact .int (h i hi)) (by rw [List.length_map]; exact k) hm
end
theorem abs_lt {i : Int} (h0 : -1000000000000000000000000000000 ≤ i) (h1 : i ≤ 1000000000000000000000000000000) : i.natAbs < 10 ^ 31 := by
  have : (10 : Nat) ^ 31 = 10000000000000000000000000000000 := by decide
  omega
end Dv
/-! DvRev: t[::-1]. -/
namespace Ts
open PySem PySem.Spec PyProof.Rows L2 Ts HT
section
variable {prog : Program} {w : World} {A : Around} {E : Value → Shared → Prop} {s : Shared}
theorem places_rev (n : Nat) : Builtin.Slice.slicePlaces ((n : Int) - 1) (-1) (-1) = n := by
  unfold Builtin.Slice.slicePlaces
  rw [if_neg (show ¬ ((-1 : Int) > 0) by decide), show (- -1 : Int) = 1 by decide, Int.ediv_one]
  split <;> omega
theorem adjust_rev (n : Nat) : Builtin.Slice.sliceAdjust none none (-1) (n : Int) = ((n : Int) - 1, -1) := rfl
theorem sliceApplied_rev {sl : Addr} {vs : Value} {n : Nat} {Q : Int × Int × Nat → Shared → Prop} (hs : s.heap.IsSliceOf sl .none .none vs) (ps : IsPart vs (some (-1)))
    (h : Q ((n : Int) - 1, -1, n) s) : wpAny (model prog w) A (Builtin.Slice.sliceApplied (.ref sl) (pure (n : Int))) Q E s := by
  obtain ⟨os, hos, hcs, hds⟩ := id hs
  unfold Builtin.Slice.sliceApplied Builtin.Slice.sliceFields
  refine wpAny_bind (wpAny_bind (wpAny_field hos hds (x := .none) rfl (wpAny_bind (wpAny_field hos hds (x := .none) rfl (wpAny_bind (wpAny_field hos hds (x := vs) rfl (wpAny_pure ?_)))))))
  refine wpAny_bind (slicePart_ ps ?_)
  show wpAny _ _ (if ((-1 : Int) == 0) = true then _ else _) _ _ s
  rw [if_neg (by decide)]
  refine wpAny_bind (slicePart_ .none (wpAny_bind (slicePart_ .none (wpAny_bind (wpAny_pure ?_)))))
  show wpAny _ _ (match Builtin.Slice.sliceAdjust none none (-1) (n : Int) with | (lo, hi) => pure (lo, (-1 : Int), Builtin.Slice.slicePlaces lo hi (-1))) _ _ s
  rw [adjust_rev]
  show wpAny _ _ (pure ((n : Int) - 1, (-1 : Int), Builtin.Slice.slicePlaces ((n : Int) - 1) (-1) (-1))) _ _ s
  rw [places_rev]
  exact wpAny_pure h
theorem filterMap_cong {α β : Type} {f g : α → Option β} : ∀ {l : List α}, (∀ x ∈ l, f x = g x) → l.filterMap f = l.filterMap g
  | [], _ => rfl
  | a :: l, h => by
    rw [List.filterMap_cons, List.filterMap_cons, h a List.mem_cons_self, filterMap_cong fun x m => h x (List.mem_cons_of_mem _ m)]
theorem pick_rev (xs : Array Value) : ((List.range xs.size).filterMap fun (m : Nat) => xs[((xs.size : Int) - 1 + (m : Int) * -1).toNat]?).toArray = xs.toList.reverse.toArray := by
  have e : (List.range xs.size).filterMap (fun (m : Nat) => xs[((xs.size : Int) - 1 + (m : Int) * -1).toNat]?) = (List.range xs.size).filterMap fun m => xs[xs.size - 1 - m]? := by
    refine filterMap_cong fun m hm => ?_
    have := List.mem_range.mp hm
    have : ((xs.size : Int) - 1 + (m : Int) * -1).toNat = xs.size - 1 - m := by omega
    rw [this]
  rw [e]
  have h := List.filterMap_map (f := fun k => xs.size - 1 - k) (g := fun k => xs[k]?) (l := List.range xs.size)
  rw [PySem.W.krv_range, List.filterMap_reverse, PySem.W.krv_all] at h
  rw [h]
  rfl
theorem getItem_tuple_rev {t sl : Addr} {items : Array Value} {vs : Value} {Q : Value → Shared → Prop} (ht : IsTup s.heap t items) (hs : s.heap.IsSliceOf sl .none .none vs) (ps : IsPart vs (some (-1)))
    (h : Q (.ref s.heap.objs.size) { s with heap := s.heap.push { cls := .type "tuple", data := .seq items.toList.reverse.toArray } })
    (hsz : items.size ≤ sizeLine) : wpAny (model prog w) A (getItem (.ref t) (.ref sl)) Q E s := by
  have htake : sizeOk (.seq items.toList.reverse.toArray) := by
    show items.toList.reverse.toArray.size ≤ sizeLine
    rw [List.size_toArray, List.length_reverse, Array.length_toList]
    exact hsz
  obtain ⟨os, hos, hcs, hds⟩ := id hs
  have hTs : s.TypeIs (.ref sl) "slice" := ⟨os, hos, hcs⟩
  unfold getItem
  try with_reducible refine wpAny_holding ?_
  first | refine wpAny_bind (wpAny_pure ?_) | skip
  refine wpAny_bind (wpAny_sequenceKey ht.typeIs (by decide) ?_)
  refine wpAny_bind (wpAny_callSpecial?_slot (name := Str.ofString "__getitem__") ht.typeIs PyProof.Rows.slot_tuple_getitem
    (wpAny_call_entry PyProof.Rows.slot_tuple_getitem ht.typeIs entry_tuple_getitem ?_ (args_tuple_getitem _ _)))
  show wpAny _ _ (Builtin.Tuple.tupleItemsOf (.ref t) >>= _) _ _ s
  refine wpAny_bind (tupleItemsOf_ ht ?_)
  refine wpAny_bind (wpAny_typeOf hTs ?_)
  rw [if_pos (by decide)]
  refine wpAny_bind (sliceApplied_rev (n := items.size) hs ps ?_)
  have hno : ¬ (((items.size : Int) - 1 == 0 && (-1 : Int) == 1 && items.size == items.size) = true) := by
    rw [show ((-1 : Int) == 1) = false from rfl, Bool.and_false, Bool.false_and]
    exact Bool.false_ne_true
  show wpAny _ _ (if ((items.size : Int) - 1 == 0 && (-1 : Int) == 1 && items.size == items.size) = true then _ else _) _ _ s
  rw [if_neg hno, pick_rev]
  first
    | exact wpAny_bind (m := Builtin.Tuple.tupleExact _) (wpAny_newObj_type (wpAny_pure ⟨_, rfl, wpAny_pure h⟩) htake)
    | exact wpAny_bind (m := Builtin.Tuple.tupleExact _) (wpAny_newObj_type (wpAny_bind (wpAny_pure (wpAny_pure ⟨_, rfl, wpAny_pure h⟩))) htake)
    | exact wpAny_bind (wpAny_bind (m := Builtin.Tuple.tupleExact _) (wpAny_newObj_type (wpAny_pure (wpAny_pure ⟨_, rfl, wpAny_pure h⟩)) htake))
    | exact wpAny_bind (wpAny_bind (m := Builtin.Tuple.tupleExact _) (wpAny_newObj_type (wpAny_pure ⟨_, rfl, wpAny_pure h⟩) htake))
end
section
variable {X : Cx}
def tRevTup (K : PySem.W.Frag) (te : TE) : TE := fun σ H Q => te σ H fun x H1 => ∃ a xs, x = .ref a ∧ SqT K H1 a xs ∧ ∀ p, H1 p = none → Q (.ref p) (upd H1 p (.tup xs.reverse))
theorem pe_revTup {e : Expr} {te : TE} {k : Nat} {p1 p2 p3 pos : Pos} (he : PE X e te) : PE X (.Subscript e (.Slice none none (some (.UnaryOp .USub (.Constant (.int 1) k p1) p2)) p3) pos) (tRevTup X.K te) := by
  refine ⟨fun pins s σ H Q I h => ?_⟩
  refine Subscript_ (thn (he.run pins s σ H _ I h) fun v s1 ⟨x, H1, I1, r1, q1⟩ => ?_)
  obtain ⟨a, xs, ex, hx, q⟩ := q1
  subst ex
  cases r1
  have hst : PO X (some (.UnaryOp .USub (.Constant (.int 1) k p1) p2)) (tPart (tUn (rU fun i => .int (-i)) (tC (.int 1)))) := po_some (pe_un un_neg pe_int)
  refine wpAny_Slice (thn (po_none.run pins s1 σ H1 (fun o H2 => o = none ∧ H2 = H1) I1 ⟨rfl, rfl⟩) fun vl s2 ⟨l, H2, I2, pl, el, e2⟩ => ?_)
  subst el e2
  refine thn (po_none.run pins s2 σ H2 (fun o H3 => o = none ∧ H3 = H2) I2 ⟨rfl, rfl⟩) fun vu s3 ⟨u, H3, I3, pu, eu, e3⟩ => ?_
  subst eu e3
  refine thn (hst.run pins s3 σ H3 (fun o H4 => o = some (-1) ∧ H4 = H3) I3 ⟨1, rfl, -1, rfl, rfl, rfl⟩) fun vs s4 ⟨o, H4, I4, ps, eo, e4⟩ => ?_
  subst eo e4
  cases pl
  cases pu
  have I5 : Inv X pins σ H4 { s4 with heap := s4.heap.push { cls := .type "slice", data := .fields #[.none, .none, vs] } } := I4.kept (t' := s4.toks) fun b ob q => Heap.get?_push_of_some _ q
  obtain ⟨its, r, ht, hz⟩ := I5.tuple hx
  have hlen := r.length
  show wpAny (model X.prog X.w) X.A (subscriptTail e (.Slice none none (some (.UnaryOp .USub (.Constant (.int 1) k p1) p2)) p3) (.ref a) (.ref s4.heap.objs.size)) (EP X pins σ Q) X.xe { s4 with heap := s4.heap.push { cls := .type "slice", data := .fields #[.none, .none, vs] } }
  refine tail_any (ops := [.ref a, .ref s4.heap.objs.size]) ht.typeIs (PyProof.Rows.slot_tuple_getitem.lookup) ?_ (by with_unfolding_all rfl)
  refine getItem_tuple_rev ht (Heap.IsSliceOf.new _ .none .none vs) ps ?_ (by rw [List.size_toArray]; omega)
  refine ⟨.ref _, _, I5.laid (t' := s4.toks) (o := .tup xs.reverse) (fun b ob q => Heap.get?_push_of_some _ q) (Nat.le_refl _) ?_, rfl, q _ (I5.hok.fresh (Nat.le_refl _))⟩
  refine ⟨by rw [List.length_reverse]; exact hz, _, r.reverse, ?_⟩
  exact IsTup.new _ _
end
end Ts
namespace Dv
open PySem PySem.Spec PyProof.Rows L2 Ts
section
variable {X : Cx} {c : Vc} {a : Expr} {fa : Wt Dt} {k : Nat} {p1 p2 p3 pos : Pos}
def wRevT (fa : Wt Dt) : Wt Dt := fun s P E => fa s (fun x s1 => ∃ ds, x = .tuple ds ∧ P (.tuple ds.reverse) s1) E
def wRevL (fa : Wt Dt) : Wt Dt := fun s P E => fa s (fun x s1 => ∃ ds, x = .list ds ∧ P (.list ds.reverse) s1) E
theorem vx_revT (ha : VX X c a fa) : VX X c (.Subscript a (.Slice none none (some (.UnaryOp .USub (.Constant (.int 1) k p1) p2)) p3) pos) (wRevT fa) := by
  obtain ⟨ta, a1, a2⟩ := ha
  refine ⟨_, pe_revTup a1, ?_⟩
  intro F B s σ H Q P E rr hf k kx
  refine a2 F B s σ H _ _ E rr hf (fun x s1 v B1 H1 p1 r1 e1 z1 => ?_) kx
  obtain ⟨ds, rfl, q⟩ := p1
  cases z1 with
  | tup hs ha =>
    rename_i ad xs
    refine ⟨ad, xs, rfl, (ex_sb r1.bh).t _ _ hs, fun pp hp => ?_⟩
    obtain ⟨r4, e4⟩ := r1.laid (o := .tup xs.reverse) hp
    exact k _ s1 _ _ _ q r4 (Evl.Ex.trans e1 e4) (.tup (SqT.of upd_same) (ha.rev.ex e4))
theorem vn_revL (ha : VX X c a fa) : VN X c (.Subscript a (.Slice none none (some (.UnaryOp .USub (.Constant (.int 1) k p1) p2)) p3) pos) (wRevL fa) := by
  obtain ⟨ta, a1, a2⟩ := ha
  refine ⟨_, pe_revL a1, ?_⟩
  intro F B s σ H Q P E rr hf k kx
  refine a2 F B s σ H _ _ E rr hf (fun x s1 v B1 H1 p1 r1 e1 z1 => ?_) kx
  obtain ⟨ds, rfl, q⟩ := p1
  cases z1 with
  | lst hs ha =>
    rename_i ad xs
    refine ⟨ad, xs, rfl, SqL.of (r1.bh _ _ hs), fun pp hp => ?_⟩
    exact k _ s1 _ _ _ q (r1.temp (o := .lst xs.reverse) hp rfl) e1 (.lst upd_same ha.rev)
end
section
variable {fa : Wt Dt} {s s1 : Sl} {P : Dt → Sl → Prop} {E : Str → Sl → Prop} {ds : List Dt}
def kRevT (P : Dt → Sl → Prop) (x : Dt) (s1 : Sl) : Prop := ∃ ds, x = .tuple ds ∧ P (.tuple ds.reverse) s1
def kRevL (P : Dt → Sl → Prop) (x : Dt) (s1 : Sl) : Prop := ∃ ds, x = .list ds ∧ P (.list ds.reverse) s1
theorem e_RevT : wRevT fa s P E = fa s (kRevT P) E := rfl
theorem e_RevL : wRevL fa s P E = fa s (kRevL P) E := rfl
theorem e_kRevT : kRevT P (.tuple ds) s1 = P (.tuple ds.reverse) s1 := by
  refine propext ⟨?_, fun h => ⟨_, rfl, h⟩⟩
  rintro ⟨ds', e, h⟩
  cases e
  exact h
theorem e_kRevL : kRevL P (.list ds) s1 = P (.list ds.reverse) s1 := by
  refine propext ⟨?_, fun h => ⟨_, rfl, h⟩⟩
  rintro ⟨ds', e, h⟩
  cases e
  exact h
end
theorem cStrV {X : Cx} : CaV X (.type "str") gStr := by
  refine ⟨_, call_str_int, fun B H vs xs d Q bh hx hd k => ?_⟩
  unfold gStr at hd
  split at hd
  · split at hd
    · rename_i i c
      cases hx with
      | cons h t =>
        cases t
        cases h
        cases hd
        refine ⟨_, rfl, ?_, k _ B H (Gr.refl bh) (.str _)⟩
        by_cases z : i.natAbs = 0
        · rw [z]; decide
        · exact Nat.lt_trans ((Nat.log2_lt z).mpr c) (by decide)
    · cases hd
  · cases hd
theorem str_i {i : Int} (h : i.natAbs < 10 ^ 31) : gStr [.int i] = some (.str (PyData.int i).shown) := by
  show (if _ then _ else _) = _
  rw [if_pos (Nat.lt_trans h (by decide))]
  simp only [PyData.shown]
theorem Gd.strI {i : Int} (h : i.natAbs < 10 ^ 31) : Gd 322 0 (.str (PyData.int i).shown) :=
  Gd.str (m := 32) (shown_ok (.int i) (decide_eq_true h)) (shown_up (.int i) (decide_eq_true h))
end Dv
namespace K87
open PySem PySem.Spec PyProof.Rows L2
/-! ### the text by places -/
def top (i : Nat) : Stmt := PySem.Challenge.pw_turnshelf_k87_under_way_refused.main.body.getD i (.Pass ⟨0, 0, 0, 0⟩)
abbrev sis_number : Stmt := top 19
abbrev sis_between : Stmt := top 20
abbrev sis_costs_row : Stmt := top 21
abbrev sis_costs : Stmt := top 22
abbrev sis_toll : Stmt := top 23
abbrev sis_whole_in : Stmt := top 27
abbrev sfirst_least : Stmt := top 28
abbrev sunder : Stmt := top 30
abbrev sphases_cost : Stmt := top 31
abbrev slaw_begun : Stmt := top 33
abbrev slaw_take : Stmt := top 34
abbrev slaw_pick : Stmt := top 35
abbrev slaw_costs : Stmt := top 36
abbrev slaw_toll : Stmt := top 37
abbrev slaw_refusal : Stmt := top 38
abbrev slaw_whole : Stmt := top 39
abbrev slaw_is_costs : Stmt := top 40
abbrev slaw_is_ends : Stmt := top 41
abbrev slaw_odd_number : Stmt := top 42
abbrev slaw_bent_costs : Stmt := top 43
abbrev slaw_ends : Stmt := top 44
abbrev slaw_right : Stmt := top 45
abbrev slaw : Stmt := top 46
abbrev sUnder_init : Stmt := inClass (top 29) 0
abbrev sUnder_is_row : Stmt := inClass (top 29) 1
abbrev sUnder_chosen : Stmt := inClass (top 29) 2
abbrev sUnder_step : Stmt := inClass (top 29) 3
/-! ### the head: facts by names -/
def dis_number : He.DefD := ⟨("is_number", none), "is_number", "is_number", defArgs sis_number, defBody sis_number, defScope sis_number, [], []⟩
def dis_between : He.DefD := ⟨("is_between", none), "is_between", "is_between", defArgs sis_between, defBody sis_between, defScope sis_between, [], []⟩
def dis_costs_row : He.DefD := ⟨("is_costs_row", none), "is_costs_row", "is_costs_row", defArgs sis_costs_row, defBody sis_costs_row, defScope sis_costs_row, [], []⟩
def dis_costs : He.DefD := ⟨("is_costs", none), "is_costs", "is_costs", defArgs sis_costs, defBody sis_costs, defScope sis_costs, [], []⟩
def dis_toll : He.DefD := ⟨("is_toll", none), "is_toll", "is_toll", defArgs sis_toll, defBody sis_toll, defScope sis_toll, [], []⟩
def dis_whole_in : He.DefD := ⟨("is_whole_in", none), "is_whole_in", "is_whole_in", defArgs sis_whole_in, defBody sis_whole_in, defScope sis_whole_in, [], []⟩
def dfirst_least : He.DefD := ⟨("first_least", none), "first_least", "first_least", defArgs sfirst_least, defBody sfirst_least, defScope sfirst_least, [], []⟩
def dunder : He.DefD := ⟨("under", none), "under", "under", defArgs sunder, defBody sunder, defScope sunder, [], []⟩
def dphases_cost : He.DefD := ⟨("phases_cost", none), "phases_cost", "phases_cost", defArgs sphases_cost, defBody sphases_cost, defScope sphases_cost, [], []⟩
def dlaw_begun : He.DefD := ⟨("_law_begun", none), "_law_begun", "_law_begun", defArgs slaw_begun, defBody slaw_begun, defScope slaw_begun, [], []⟩
def dlaw_take : He.DefD := ⟨("_law_take", none), "_law_take", "_law_take", defArgs slaw_take, defBody slaw_take, defScope slaw_take, [], []⟩
def dlaw_pick : He.DefD := ⟨("_law_pick", none), "_law_pick", "_law_pick", defArgs slaw_pick, defBody slaw_pick, defScope slaw_pick, [], []⟩
def dlaw_costs : He.DefD := ⟨("_law_costs", none), "_law_costs", "_law_costs", defArgs slaw_costs, defBody slaw_costs, defScope slaw_costs, [], []⟩
def dlaw_toll : He.DefD := ⟨("_law_toll", none), "_law_toll", "_law_toll", defArgs slaw_toll, defBody slaw_toll, defScope slaw_toll, [], []⟩
def dlaw_refusal : He.DefD := ⟨("_law_refusal", none), "_law_refusal", "_law_refusal", defArgs slaw_refusal, defBody slaw_refusal, defScope slaw_refusal, [], []⟩
def dlaw_whole : He.DefD := ⟨("_law_whole", none), "_law_whole", "_law_whole", defArgs slaw_whole, defBody slaw_whole, defScope slaw_whole, [], []⟩
def dlaw_is_costs : He.DefD := ⟨("_law_is_costs", none), "_law_is_costs", "_law_is_costs", defArgs slaw_is_costs, defBody slaw_is_costs, defScope slaw_is_costs, [], []⟩
def dlaw_is_ends : He.DefD := ⟨("_law_is_ends", none), "_law_is_ends", "_law_is_ends", defArgs slaw_is_ends, defBody slaw_is_ends, defScope slaw_is_ends, [], []⟩
def dlaw_odd_number : He.DefD := ⟨("_law_odd_number", none), "_law_odd_number", "_law_odd_number", defArgs slaw_odd_number, defBody slaw_odd_number, defScope slaw_odd_number, [], []⟩
def dlaw_bent_costs : He.DefD := ⟨("_law_bent_costs", none), "_law_bent_costs", "_law_bent_costs", defArgs slaw_bent_costs, defBody slaw_bent_costs, defScope slaw_bent_costs, [], []⟩
def dlaw_ends : He.DefD := ⟨("_law_ends", none), "_law_ends", "_law_ends", defArgs slaw_ends, defBody slaw_ends, defScope slaw_ends, [], []⟩
def dlaw_right : He.DefD := ⟨("_law_right", none), "_law_right", "_law_right", defArgs slaw_right, defBody slaw_right, defScope slaw_right, [], []⟩
def dlaw : He.DefD := ⟨("law", none), "law", "law", defArgs slaw, defBody slaw, defScope slaw, [], []⟩
def dUnder_init : He.DefD := ⟨("Under", some "__init__"), "__init__", "Under.__init__", defArgs sUnder_init, defBody sUnder_init, defScope sUnder_init, [], []⟩
def dUnder_is_row : He.DefD := ⟨("Under", some "is_row"), "is_row", "Under.is_row", defArgs sUnder_is_row, defBody sUnder_is_row, defScope sUnder_is_row, [], []⟩
def dUnder_chosen : He.DefD := ⟨("Under", some "chosen"), "chosen", "Under.chosen", defArgs sUnder_chosen, defBody sUnder_chosen, defScope sUnder_chosen, [], []⟩
def dUnder_step : He.DefD := ⟨("Under", some "step"), "step", "Under.step", defArgs sUnder_step, defBody sUnder_step, defScope sUnder_step, [], []⟩
def fn : List He.DefD := [dis_number, dis_between, dis_costs_row, dis_costs, dis_toll, dis_whole_in, dfirst_least, dunder, dphases_cost, dlaw_begun, dlaw_take, dlaw_pick, dlaw_costs, dlaw_toll, dlaw_refusal, dlaw_whole, dlaw_is_costs, dlaw_is_ends, dlaw_odd_number, dlaw_bent_costs, dlaw_ends, dlaw_right, dlaw, dUnder_init, dUnder_is_row, dUnder_chosen, dUnder_step]
def fa : List He.Fa := [.glo "is_number", .glo "is_between", .glo "is_costs_row", .glo "is_costs", .glo "is_toll", .glo "is_whole_in", .glo "first_least", .glo "under", .glo "phases_cost", .glo "_law_begun", .glo "_law_take", .glo "_law_pick", .glo "_law_costs", .glo "_law_toll", .glo "_law_refusal", .glo "_law_whole", .glo "_law_is_costs", .glo "_law_is_ends", .glo "_law_odd_number", .glo "_law_bent_costs", .glo "_law_ends", .glo "_law_right", .glo "law", .glo "ShelfError", .glo "NoSort", .glo "NoThings", .glo "NoDeed", .glo "NoKind", .glo "TooMany", .glo "NoProgram", .glo "NoText", .glo "NoRun", .glo "NoCosts", .glo "NoChoice", .glo "NoShelf", .glo "NoRow", .glo "Under", .int "MOST_ROWS" 120, .int "MOST_KINDS_cheapest" 5, .int "MOST_COST_cheapest" 1000000, .int "MOST_TOLL" 1000, .int "MOST_KINDS_underway" 5, .int "MOST_COST_underway" 1000000, .exc "ShelfError", .exc "NoSort", .exc "NoThings", .exc "NoDeed", .exc "NoKind", .exc "TooMany", .exc "NoProgram", .exc "NoRun", .exc "NoCosts", .exc "NoChoice", .exc "NoShelf", .exc "NoRow", .cls "Under", .mkr "Under", .noat "Under" "many", .noat "Under" "toll", .noat "Under" "kind", .noat "Under" "sums", .noat "Under" "paid", .noat "Under" "phases", .meth "Under" "is_row", .meth "Under" "chosen", .meth "Under" "step", .free "ValueError", .free "abs", .free "all", .free "bool", .free "enumerate", .free "int", .free "isinstance", .free "len", .free "list", .free "max", .free "min", .free "range", .free "repr", .free "set", .free "sorted", .free "str", .free "sum", .free "tuple", .free "zip"]
theorem fa_at {f : He.Fa} (i : Nat) (h : fa[i]? = some f := by rfl) : fa[i]? = some f := h
abbrev R : PySem.W.OpenRow := PySem.W.OpenLaw.row PySem.Challenge.rw_turnshelf_k87_under_way_refused
def ts : List He.Tab := []
def tf : List He.Defn := [("_law_right", none)]
def xb : List Dv.Xb := [.xa (.excC "NoCosts"),
  .exm "NoCosts" "ShelfError" true,
  .xa (.kio "NoCosts" "NoSort" false),
  .xa (.kio "NoCosts" "NoThings" false),
  .xa (.kio "NoCosts" "NoDeed" false),
  .xa (.kio "NoCosts" "NoKind" false),
  .xa (.kio "NoCosts" "TooMany" false),
  .xa (.kio "NoCosts" "NoProgram" false),
  .xa (.kio "NoCosts" "NoText" false),
  .xa (.kio "NoCosts" "NoRun" false),
  .xa (.kio "NoCosts" "NoCosts" true),
  .xa (.kio "NoCosts" "NoChoice" false),
  .xa (.kio "NoCosts" "NoShelf" false),
  .xa (.kio "NoCosts" "NoRow" false),
  .xa (.kit "NoCosts" "ValueError" true),
  .xa (.excC "NoChoice"),
  .exm "NoChoice" "ShelfError" true,
  .xa (.kio "NoChoice" "NoSort" false),
  .xa (.kio "NoChoice" "NoThings" false),
  .xa (.kio "NoChoice" "NoDeed" false),
  .xa (.kio "NoChoice" "NoKind" false),
  .xa (.kio "NoChoice" "TooMany" false),
  .xa (.kio "NoChoice" "NoProgram" false),
  .xa (.kio "NoChoice" "NoText" false),
  .xa (.kio "NoChoice" "NoRun" false),
  .xa (.kio "NoChoice" "NoCosts" false),
  .xa (.kio "NoChoice" "NoChoice" true),
  .xa (.kio "NoChoice" "NoShelf" false),
  .xa (.kio "NoChoice" "NoRow" false),
  .xa (.kit "NoChoice" "ValueError" true),
  .apart [("_law_right", none)]]
abbrev hk : PySem.W.Hook := He.hookX 5 fa fn ts tf (Dv.xbOk xb)
def ob (s : PySem.W.SharedT) : He.AlX := He.obsX 5 fa fn ts tf (Dv.xbOk xb) (HandSHeadRun.getT s)
theorem ob_eq (s : PySem.W.SharedT) : ob s = hk.obs s.abs := He.obsX_eq (HandSHeadRun.getT_eq s)
def loose : List PySem.Str := (["ShelfError", "NoSort", "NoThings", "NoDeed", "NoKind", "TooMany", "NoProgram", "NoText", "NoRun", "NoCosts", "NoChoice", "NoShelf", "NoRow", "MOST_ROWS", "MOST_KINDS_cheapest", "MOST_COST_cheapest"] : List PySem.Str) ++ (["MOST_TOLL", "is_number", "is_between", "is_costs_row", "is_costs", "is_toll", "MOST_KINDS_underway", "MOST_COST_underway", "is_whole_in", "first_least", "Under", "under", "phases_cost", "_law_begun", "_law_take", "_law_pick"] : List PySem.Str) ++ (["_law_costs", "_law_toll", "_law_refusal", "_law_whole", "_law_is_costs", "_law_is_ends", "_law_odd_number", "_law_bent_costs", "_law_ends", "_law_right"] : List PySem.Str)
set_option maxHeartbeats 0 in
theorem run (w : World) : HandSHeadRun.RunEq R (PySem.W.view R.prog [46]) hk ob 8000 loose w := by
  intro os
  kernel_rfl
end K87
/-! VDraw: what a law draws from, by value. -/
namespace VD
open PySem PySem.Spec PyProof.Rows L2 Ts Dv K87
def esD (c : List Int) (a r t m : Int) : Kvs := [(.inr "cells", .list (c.map .int)), (.inr "at", .int a), (.inr "rest", .int r), (.inr "turn", .int t), (.inr "more", .int m)]
def stD (c : List Int) (a r t m : Int) : Dt := .dic (esD c a r t m)
def StOk (d : Dt) : Prop := ∃ c a r t m, d = stD c a r t m ∧ (∀ x ∈ c, 0 ≤ x) ∧ c.length ≤ 1000 ∧ 0 ≤ a ∧ 0 ≤ r ∧ 0 ≤ t ∧ 0 ≤ m ∧ m < 2147483647
def S_take : Fs := pS fun ds P _ => ∃ st many, ds = [st, .int many] ∧ StOk st ∧ 0 < many ∧ many < 1073741824 ∧ ∀ v st', 0 ≤ v → v < many → StOk st' → P (.int v) [st']
def S_pick : Fs := pS fun ds P _ => ∃ st xs, ds = [st, .list xs] ∧ StOk st ∧ xs ≠ [] ∧ xs.length ≤ 1000000 ∧ ∀ x st', x ∈ xs → StOk st' → P x [st']
section
variable {c : List Int} {a r t m : Int} {d : Dt}
theorem st_cells : gDGet (stD c a r t m) (.str "cells") = some (.list (c.map .int)) := rfl
theorem st_at : gDGet (stD c a r t m) (.str "at") = some (.int a) := rfl
theorem st_rest : gDGet (stD c a r t m) (.str "rest") = some (.int r) := rfl
theorem st_turn : gDGet (stD c a r t m) (.str "turn") = some (.int t) := rfl
theorem st_more : gDGet (stD c a r t m) (.str "more") = some (.int m) := rfl
theorem st_es : dicOf (some (stD c a r t m)) = some (esD c a r t m) := rfl
theorem st_len : (esD c a r t m).length = 5 := rfl
theorem st_pat {x : Int} : Dt.dic (putKD (esD c a r t m) (.inr "at") (.int x)) = stD c x r t m := rfl
theorem st_prest {x : Int} : Dt.dic (putKD (esD c a r t m) (.inr "rest") (.int x)) = stD c a x t m := rfl
theorem st_pturn {x : Int} : Dt.dic (putKD (esD c a r t m) (.inr "turn") (.int x)) = stD c a r x m := rfl
theorem st_pmore {x : Int} : Dt.dic (putKD (esD c a r t m) (.inr "more") (.int x)) = stD c a r t x := rfl
theorem kOf_s {x : Str} : kOf (.str x) = some (.inr x) := rfl
/-- an item of a row of ints -/
theorem ix_nat {c : List Int} {i : Int} (h0 : 0 ≤ i) (h : i < c.length) : ∃ x, x ∈ c ∧ gIx (.list (c.map .int)) (.int i) = some (.int x) := by
  have hl : i.toNat < c.length := by omega
  refine ⟨c[i.toNat], List.getElem_mem hl, ?_⟩
  show atI (c.map Dt.int) i = _
  unfold atI
  rw [show ixN (c.map Dt.int).length i = some i.toNat from by
    unfold ixN
    rw [List.length_map]
    simp [h0, h]]
  simp [hl]
theorem ix_list {xs : List Dt} {i : Int} (h0 : 0 ≤ i) (h : i < xs.length) : ∃ x, x ∈ xs ∧ gIx (.list xs) (.int i) = some x := by
  have hl : i.toNat < xs.length := by omega
  refine ⟨xs[i.toNat], List.getElem_mem hl, ?_⟩
  show atI xs i = _
  unfold atI
  rw [show ixN xs.length i = some i.toNat from by
    unfold ixN
    simp [h0, h]]
  simp [hl]
theorem pow18 : gPow (.int 10) (.int 18) = some (.int 1000000000000000000) := rfl
end
local macro_rules | `(tactic| walk_at "vrh") => `(tactic| simp (config := {decide := true}) only [Bool.or_eq_true, Option.getD_some, Option.getD_none, decide_eq_true_eq, Ts.isaD, Ts.kindD, Ts.isaK, Bool.not_true, Bool.not_false, Bool.or_self, Bool.and_self, List.map_cons, List.map_nil, List.length_cons, List.length_nil, List.replicate, List.cons_append, List.nil_append, Nat.reduceSub, Nat.reduceAdd, List.set_cons_zero, List.set_cons_succ, ↓reduceIte, Bool.false_eq_true, reduceCtorEq, true_and, and_true, List.append_nil, Option.isSome_some, Nat.reduceLeDiff, Bool.and_true, Bool.true_and, Bool.or_true, Bool.true_or, decide_true, Nat.zero_add, Int.reduceNeg, Int.reducePow, Int.reduceLE, Int.reduceLT, Int.reduceAdd, Int.reduceSub, Int.reduceMul, Int.toNat_natCast, Option.map_some, Option.bind_some, beq_self_eq_true, Dv.bO_some, Dv.bO_none, Dv.ite_dec, Dv.gS_0, Dv.gS_n, Dv.gS_s, Dv.v_slot, Dv.v_val, Dv.v_cell, Dv.set_mk, Dv.cell_mk, Dv.pa_slot, Dv.pa_cell, Dv.refOf, Dv.boOf, Dv.intOf, Dv.tupOf, Dv.lstOf, Dv.dicOf_d, Dv.insOf_same, Dv.e_fl, Dv.e_kK, Dv.plc, Dv.e_var, Dv.e_c, Dv.e_cell, Dv.e_kCell, Dv.e_L, Dv.e_kL, Dv.e_Ls, Dv.e_Lc, Dv.e_kLc1, Dv.e_kLc2, Dv.e_Rd, Dv.e_kRd, Dv.e_Op, Dv.e_kOp1, Dv.e_kOp2, Dv.e_OpL, Dv.e_kOpL1, Dv.e_kOpL2, Dv.e_kOpL3, Dv.e_Tst, Dv.e_kTst, Dv.e_kTst2, Dv.e_Un, Dv.e_kUn, Dv.e_Ch, Dv.e_kCh1, Dv.e_kCh2, Dv.e_kCh3, Dv.e_kCh4, Dv.e_kCh5, Dv.e_And, Dv.e_kAnd, Dv.e_Or, Dv.e_kOr, Dv.e_Not, Dv.e_kNot, Dv.e_AndV, Dv.e_kAndV, Dv.e_kAndV2, Dv.e_OrV, Dv.e_kOrV, Dv.e_kOrV2, Dv.e_NotV, Dv.e_kNotV, Dv.e_kNotV2, Dv.e_IfV, Dv.e_kIfV, Dv.e_nil, Dv.e_Cons, Dv.e_kCons1, Dv.e_kCons2, Dv.e_Tup, Dv.e_kTup, Dv.e_Lst, Dv.e_kLst, Dv.e_Ca, Dv.e_kCa, Dv.e_NewL, Dv.e_kNewL, Dv.e_kNewL2, Dv.e_Seq, Dv.e_kSeqn, Dv.e_kSeqrt, Dv.e_kSeqbk, Dv.e_kSeqct, Dv.e_kSeqer, Dv.e_Next, Dv.e_Brk, Dv.e_Cnt, Dv.e_Drop, Dv.e_kDrop, Dv.e_Ret, Dv.e_RetN, Dv.e_RetO, Dv.e_kRetO, Dv.e_RetC, Dv.e_kRetC, Dv.e_IfS, Dv.e_kIfS, Dv.e_gNm, Dv.e_gNms0, Dv.e_gNms1, Dv.e_gTpN, Dv.e_gTpL, Dv.e_kTpN, Dv.e_Asg, Dv.e_kAsg, Dv.e_Set, Dv.e_kSet, Dv.e_Take, Dv.e_kTake, Dv.e_kTake2, Dv.e_kTake3, Dv.e_For, Dv.e_kWh, Dv.e_Call, Dv.e_kCall, Dv.e_NilR, Dv.e_ConsR, Dv.e_kConsR1, Dv.e_kConsR2, Dv.e_kBack, Dv.e_putP0, Dv.e_putP1, Dv.e_putP2, Dv.e_delP0, Dv.e_delP1, Dv.e_delP2, Dv.e_Yes, Dv.e_ItF, Dv.e_kItF, Dv.e_ItT, Dv.e_kItT, Dv.e_ItL, Dv.e_kItL, Dv.wipe_0, Dv.wipe_1, Dv.e_kME, Dv.e_kMB, Dv.e_kMT, Dv.e_LcS, Dv.e_Rg1, Dv.e_kRg1, Dv.e_Rg2, Dv.e_kRg2, Dv.e_EnL, Dv.e_kEnL, Dv.e_EnT, Dv.e_kEnT, Dv.e_kEn2, Dv.e_Zp, Dv.e_kZp, Dv.e_kZp2, Dv.sq_t, Dv.sq_l, Dv.e_No, Dv.e_Pt, Dv.e_kPt, Dv.e_kPt2, Dv.e_SlT, Dv.e_kSlT1, Dv.e_kSlT2, Dv.e_kSlT3, Dv.e_kSlT4, Dv.e_SlL, Dv.e_kSlL1, Dv.e_kSlL2, Dv.e_kSlL3, Dv.e_kSlL4, Dv.e_Prs0, Dv.e_Prs1, Dv.e_kPr1, Dv.e_kPr2, Dv.e_kPr3, Dv.e_Di, Dv.e_kDi, Dv.e_kDi2, Dv.e_ks0, Dv.e_ks1, Dv.e_ks2, Dv.e_NewD, Dv.e_Mu, Dv.e_kMu1, Dv.e_kMu2, Dv.e_kMu3, Dv.e_kMu4, Dv.e_kMu5, Dv.e_PD, Dv.e_kPD1, Dv.e_kPD2, Dv.e_kPD3, Dv.e_kPD4, Dv.e_kPD5, Dv.e_iS, Option.bind_some, Option.map_some, Dv.e_AI, Dv.e_kAI1, Dv.e_kAI2, Dv.e_kAI3, Dv.e_AL, Dv.e_kAL1, Dv.e_kAL2, Dv.e_kAL3, Dv.e_kAL4, Dv.e_Raise, Dv.e_Fld, Dv.e_kFld, Dv.e_kFld2, Dv.e_SF, Dv.e_kSF1, Dv.e_kSF2, Dv.e_kSF3, Dv.e_Me, Dv.e_kMe, Dv.e_kMe1, Dv.e_kMe2, Dv.e_Mk, Dv.e_kMk, Dv.e_kMk2, Dv.e_kMk3, Dv.e_vrt, Dv.e_vnx, Dv.e_ver, Dv.e_kOut, Dv.e_outs0, Dv.e_outs2, Dv.plain_int, Dv.plain_bool, Dv.plain_none, Dv.plain_str, Dv.flat_none, Dv.flat_bool, Dv.flat_int, Dv.flat_str, Dv.plain_l, Dv.plain_t, Dv.eq_ss, Dv.eq_ii, Dv.eq_si, Dv.eq_sn, Dv.eq_sb, Dv.eq_st, Dv.eq_sl, Dv.mem_nil, Dv.mem_cons, Dv.gIn_l, Dv.gIn_t, Dv.gNi_l, Dv.gNi_t, List.all_cons, List.all_nil, Bool.or_false, Bool.false_or, Dv.gDiv_int, Dv.gMod_int, Dv.gMul_int, Dv.ite_or, Dv.gI_int, Dv.divB, Dv.modB, Dv.mulB, Dv.gAdd_i, Dv.gSub_i, Dv.gLt_i, Dv.gLe_i, Dv.gGt_i, Dv.gGe_i, Dv.gNeg_i, Dv.gEqI_i, Dv.gNeI_i, Dv.gEqS_s, Dv.gNeS_s, Dv.gMax2_i, Dv.gMin2_i, Dv.gInt_b, Dv.gInt_i, Dv.len_l, Dv.len_t, Dv.len_f, Dv.not_dec, Dv.st0, Dv.isTy, Dv.strOk_of, Dv.flat_of, Dv.e_ListRg, Dv.e_kListRg, Dv.e_SortedSet, Dv.e_kSortedSet, Dv.gIsN_e, Dv.gNotN_e, Dv.isN_non, Dv.isN_bl, Dv.isN_int, Dv.isN_str, Dv.isN_l, Dv.isN_t, Dv.isN_d, Dv.isN_e, Dv.isN_r, Dv.isN_i, Dv.cat_l, Dv.cat_t, Dv.cnt_l, Dv.cntD_nil, Dv.cntD_cons, Dv.idx_l, Dv.ixD_nil, Dv.ixD_cons, Dv.eq_bb, Dv.ix_n, Dv.ixT_n, Dv.ix_i, Dv.ixT_i, Dv.ix_m1, Dv.ixT_m1, Dv.tup_l, Dv.tup_t, Dv.e_FA, Dv.e_kFA1, Dv.e_kFA1', Dv.e_kFA2, Dv.e_kFA3, Dv.e_kFA4, Dv.e_kFA5, Dv.cput_same, Dv.cput_cput, Dv.items_t, Dv.items_l, Dv.e_SI, Dv.e_kSI0, Dv.e_kSI1, Dv.e_kSI2, Dv.e_kSI3, Dv.e_kSI4, Dv.e_kSI5, Dv.fget_nil, Dv.fget_cons, Dv.fput_nil, Dv.fput_cons, Dv.all_b, Dv.all_m, Dv.sum_i, List.getElem?_cons_zero, List.getElem?_cons_succ, Int.ofNat_eq_natCast, Int.cast_ofNat_Int, Int.reduceToNat, Dv.e_Bm, Dv.e_kBm1, Dv.e_kBm1', Dv.e_kBm2, Dv.e_kBm3, Dv.isRd_l, Dv.isRd_s, Dv.e_Try, Dv.e_trnx, Dv.e_trrt, Dv.e_trbk, Dv.e_trct, Dv.e_trer, Dv.e_kTr, Dv.lkB_nil, Dv.lkB_cons, Dv.isEr_e, Dv.e_Lam, Dv.e_kLam, Dv.e_wipe0, Dv.e_wipe1, Dv.e_Act, Dv.e_kAct, Dv.e_kActE, Dv.e_lamS, Dv.e_kLs, Dv.e_kLsE, Dv.gKin_s, Dv.gKix_s, Dv.litD_t, Dv.litD_i, Dv.litD_n, Dv.isa_i, Dv.isa_s, Dv.isa_b, Dv.isa_n, Dv.isa_t, Dv.isa_l, Dv.isa_d, Dv.isa_dt, Dv.e_GO, Dv.e_GO1, Dv.e_GO2, Dv.e_GO3, Dv.e_GO4, Dv.e_GO5, Dv.kOf_str, Dv.kOf_int, Dv.lk_cons, Dv.lk_nil, Dv.e_Par, Dv.e_kPar, Dv.merge_nd, Dv.gDGet_d, Dv.gDIn_d, VD.st_cells, VD.st_at, VD.st_rest, VD.st_turn, VD.st_more, VD.st_es, VD.st_len, VD.st_pat, VD.st_prest, VD.st_pturn, VD.st_pmore, VD.kOf_s, VD.pow18, *])
local macro_rules | `(tactic| walk_at "vrd") => `(tactic| simp (config := {decide := true}) only [Bool.or_eq_true, Option.getD_some, Option.getD_none, decide_eq_true_eq, Ts.isaD, Ts.kindD, Ts.isaK, Bool.not_true, Bool.not_false, Bool.or_self, Bool.and_self, List.map_cons, List.map_nil, List.length_cons, List.length_nil, List.replicate, List.cons_append, List.nil_append, Nat.reduceSub, Nat.reduceAdd, List.set_cons_zero, List.set_cons_succ, ↓reduceIte, Bool.false_eq_true, reduceCtorEq, true_and, and_true, List.append_nil, Option.isSome_some, Nat.reduceLeDiff, Bool.and_true, Bool.true_and, Bool.or_true, Bool.true_or, decide_true, Nat.zero_add, Int.reduceNeg, Int.reducePow, Int.reduceLE, Int.reduceLT, Int.reduceAdd, Int.reduceSub, Int.reduceMul, Int.toNat_natCast, Option.map_some, Option.bind_some, beq_self_eq_true, Dv.bO_some, Dv.bO_none, Dv.ite_dec, Dv.gS_0, Dv.gS_n, Dv.gS_s, Dv.v_slot, Dv.v_val, Dv.v_cell, Dv.set_mk, Dv.cell_mk, Dv.pa_slot, Dv.pa_cell, Dv.refOf, Dv.boOf, Dv.intOf, Dv.tupOf, Dv.lstOf, Dv.dicOf_d, Dv.insOf_same, Dv.e_fl, Dv.e_kK, Dv.plc, Dv.e_var, Dv.e_c, Dv.e_cell, Dv.e_kCell, Dv.e_L, Dv.e_kL, Dv.e_Ls, Dv.e_Lc, Dv.e_kLc1, Dv.e_kLc2, Dv.e_Rd, Dv.e_kRd, Dv.e_Op, Dv.e_kOp1, Dv.e_kOp2, Dv.e_OpL, Dv.e_kOpL1, Dv.e_kOpL2, Dv.e_kOpL3, Dv.e_Tst, Dv.e_kTst, Dv.e_kTst2, Dv.e_Un, Dv.e_kUn, Dv.e_Ch, Dv.e_kCh1, Dv.e_kCh2, Dv.e_kCh3, Dv.e_kCh4, Dv.e_kCh5, Dv.e_And, Dv.e_kAnd, Dv.e_Or, Dv.e_kOr, Dv.e_Not, Dv.e_kNot, Dv.e_AndV, Dv.e_kAndV, Dv.e_kAndV2, Dv.e_OrV, Dv.e_kOrV, Dv.e_kOrV2, Dv.e_NotV, Dv.e_kNotV, Dv.e_kNotV2, Dv.e_IfV, Dv.e_kIfV, Dv.e_nil, Dv.e_Cons, Dv.e_kCons1, Dv.e_kCons2, Dv.e_Tup, Dv.e_kTup, Dv.e_Lst, Dv.e_kLst, Dv.e_Ca, Dv.e_kCa, Dv.e_NewL, Dv.e_kNewL, Dv.e_kNewL2, Dv.e_Seq, Dv.e_kSeqn, Dv.e_kSeqrt, Dv.e_kSeqbk, Dv.e_kSeqct, Dv.e_kSeqer, Dv.e_Next, Dv.e_Brk, Dv.e_Cnt, Dv.e_Drop, Dv.e_kDrop, Dv.e_Ret, Dv.e_RetN, Dv.e_RetO, Dv.e_kRetO, Dv.e_RetC, Dv.e_kRetC, Dv.e_IfS, Dv.e_kIfS, Dv.e_gNm, Dv.e_gNms0, Dv.e_gNms1, Dv.e_gTpN, Dv.e_gTpL, Dv.e_kTpN, Dv.e_Asg, Dv.e_kAsg, Dv.e_Set, Dv.e_kSet, Dv.e_Take, Dv.e_kTake, Dv.e_kTake2, Dv.e_kTake3, Dv.e_For, Dv.e_kWh, Dv.e_Call, Dv.e_kCall, Dv.e_NilR, Dv.e_ConsR, Dv.e_kConsR1, Dv.e_kConsR2, Dv.e_kBack, Dv.e_putP0, Dv.e_putP1, Dv.e_putP2, Dv.e_delP0, Dv.e_delP1, Dv.e_delP2, Dv.e_Yes, Dv.e_ItF, Dv.e_kItF, Dv.e_ItT, Dv.e_kItT, Dv.e_ItL, Dv.e_kItL, Dv.wipe_0, Dv.wipe_1, Dv.e_kME, Dv.e_kMB, Dv.e_kMT, Dv.e_LcS, Dv.e_Rg1, Dv.e_kRg1, Dv.e_Rg2, Dv.e_kRg2, Dv.e_EnL, Dv.e_kEnL, Dv.e_EnT, Dv.e_kEnT, Dv.e_kEn2, Dv.e_Zp, Dv.e_kZp, Dv.e_kZp2, Dv.sq_t, Dv.sq_l, Dv.e_No, Dv.e_Pt, Dv.e_kPt, Dv.e_kPt2, Dv.e_SlT, Dv.e_kSlT1, Dv.e_kSlT2, Dv.e_kSlT3, Dv.e_kSlT4, Dv.e_SlL, Dv.e_kSlL1, Dv.e_kSlL2, Dv.e_kSlL3, Dv.e_kSlL4, Dv.e_Prs0, Dv.e_Prs1, Dv.e_kPr1, Dv.e_kPr2, Dv.e_kPr3, Dv.e_Di, Dv.e_kDi, Dv.e_kDi2, Dv.e_ks0, Dv.e_ks1, Dv.e_ks2, Dv.e_NewD, Dv.e_Mu, Dv.e_kMu1, Dv.e_kMu2, Dv.e_kMu3, Dv.e_kMu4, Dv.e_kMu5, Dv.e_PD, Dv.e_kPD1, Dv.e_kPD2, Dv.e_kPD3, Dv.e_kPD4, Dv.e_kPD5, Dv.e_iS, Option.bind_some, Option.map_some, Dv.e_AI, Dv.e_kAI1, Dv.e_kAI2, Dv.e_kAI3, Dv.e_AL, Dv.e_kAL1, Dv.e_kAL2, Dv.e_kAL3, Dv.e_kAL4, Dv.e_Raise, Dv.e_Fld, Dv.e_kFld, Dv.e_kFld2, Dv.e_SF, Dv.e_kSF1, Dv.e_kSF2, Dv.e_kSF3, Dv.e_Me, Dv.e_kMe, Dv.e_kMe1, Dv.e_kMe2, Dv.e_Mk, Dv.e_kMk, Dv.e_kMk2, Dv.e_kMk3, Dv.e_vrt, Dv.e_vnx, Dv.e_ver, Dv.e_kOut, Dv.e_outs0, Dv.e_outs2, Dv.plain_int, Dv.plain_bool, Dv.plain_none, Dv.plain_str, Dv.flat_none, Dv.flat_bool, Dv.flat_int, Dv.flat_str, Dv.plain_l, Dv.plain_t, Dv.eq_ss, Dv.eq_ii, Dv.eq_si, Dv.eq_sn, Dv.eq_sb, Dv.eq_st, Dv.eq_sl, Dv.mem_nil, Dv.mem_cons, Dv.gIn_l, Dv.gIn_t, Dv.gNi_l, Dv.gNi_t, List.all_cons, List.all_nil, Bool.or_false, Bool.false_or, Dv.gDiv_int, Dv.gMod_int, Dv.gMul_int, Dv.ite_or, Dv.gI_int, Dv.divB, Dv.modB, Dv.mulB, Dv.gAdd_i, Dv.gSub_i, Dv.gLt_i, Dv.gLe_i, Dv.gGt_i, Dv.gGe_i, Dv.gNeg_i, Dv.gEqI_i, Dv.gNeI_i, Dv.gEqS_s, Dv.gNeS_s, Dv.gMax2_i, Dv.gMin2_i, Dv.gInt_b, Dv.gInt_i, Dv.len_l, Dv.len_t, Dv.len_f, Dv.not_dec, Dv.st0, Dv.isTy, Dv.strOk_of, Dv.flat_of, Dv.e_ListRg, Dv.e_kListRg, Dv.e_SortedSet, Dv.e_kSortedSet, Dv.gIsN_e, Dv.gNotN_e, Dv.isN_non, Dv.isN_bl, Dv.isN_int, Dv.isN_str, Dv.isN_l, Dv.isN_t, Dv.isN_d, Dv.isN_e, Dv.isN_r, Dv.isN_i, Dv.cat_l, Dv.cat_t, Dv.cnt_l, Dv.cntD_nil, Dv.cntD_cons, Dv.idx_l, Dv.ixD_nil, Dv.ixD_cons, Dv.eq_bb, Dv.ix_n, Dv.ixT_n, Dv.ix_i, Dv.ixT_i, Dv.ix_m1, Dv.ixT_m1, Dv.tup_l, Dv.tup_t, Dv.e_FA, Dv.e_kFA1, Dv.e_kFA1', Dv.e_kFA2, Dv.e_kFA3, Dv.e_kFA4, Dv.e_kFA5, Dv.cput_same, Dv.cput_cput, Dv.items_t, Dv.items_l, Dv.e_SI, Dv.e_kSI0, Dv.e_kSI1, Dv.e_kSI2, Dv.e_kSI3, Dv.e_kSI4, Dv.e_kSI5, Dv.fget_nil, Dv.fget_cons, Dv.fput_nil, Dv.fput_cons, Dv.all_b, Dv.all_m, Dv.sum_i, List.getElem?_cons_zero, List.getElem?_cons_succ, Int.ofNat_eq_natCast, Int.cast_ofNat_Int, Int.reduceToNat, Dv.e_Bm, Dv.e_kBm1, Dv.e_kBm1', Dv.e_kBm2, Dv.e_kBm3, Dv.isRd_l, Dv.isRd_s, Dv.e_Try, Dv.e_trnx, Dv.e_trrt, Dv.e_trbk, Dv.e_trct, Dv.e_trer, Dv.e_kTr, Dv.lkB_nil, Dv.lkB_cons, Dv.isEr_e, Dv.e_Lam, Dv.e_kLam, Dv.e_wipe0, Dv.e_wipe1, Dv.e_Act, Dv.e_kAct, Dv.e_kActE, Dv.e_lamS, Dv.e_kLs, Dv.e_kLsE, Dv.gKin_s, Dv.gKix_s, Dv.litD_t, Dv.litD_i, Dv.litD_n, Dv.isa_i, Dv.isa_s, Dv.isa_b, Dv.isa_n, Dv.isa_t, Dv.isa_l, Dv.isa_d, Dv.isa_dt, Dv.e_GO, Dv.e_GO1, Dv.e_GO2, Dv.e_GO3, Dv.e_GO4, Dv.e_GO5, Dv.kOf_str, Dv.kOf_int, Dv.lk_cons, Dv.lk_nil, Dv.e_Par, Dv.e_kPar, Dv.merge_nd, Dv.gDGet_d, Dv.gDIn_d, VD.st_cells, VD.st_at, VD.st_rest, VD.st_turn, VD.st_more, VD.st_es, VD.st_len, VD.st_pat, VD.st_prest, VD.st_pturn, VD.st_pmore, VD.kOf_s, VD.pow18])
local macro_rules | `(tactic| walk_at "call") => `(tactic| refine Dv.r_call _ _ rfl rfl (by decide) rfl rfl ?_)

section
variable {P : Program} {w : World} {K : PySem.W.Frag} {mg : Str → Option Value} {base : Heap} {TL : Tbs}
theorem sc_law_take : FnScope ["_law_state", "_law_many", "_law_cells", "_law_found", "_law_cell"] ["_law_state", "_law_many"] (defScope slaw_take) := ⟨rfl, rfl, rfl, by decide +kernel, rfl, by decide +kernel, by decide +kernel⟩
theorem v_law_take (T : Tw fa fn ts xb w K mg) : GFn P w K mg base 1 (He.fAd K dlaw_take.at_) ["_law_state", "_law_many"] (spV K TL 2 [0] S_take) := by
  obtain ⟨fd, F⟩ := T.says.def_ 10 (d := dlaw_take) rfl
  refine okV (fun i => ([0] : List Nat).contains i) [0] _ F sc_law_take (fun _ _ _ _ _ _ us hl => match us, hl with | [_, _], _ => rfl) rfl rfl (by decide) ⟨_, fun cdv hcdv A outer s H E hr => have hu := hu_of hr.rm; have hu65 := hu65_of hr.rm; (vss_cons (vs_set (i := 2) (vx_dgetL hu (vl_slot (pv 0)) (vx_str pe_str)) (fun h => ps_set (i := 2) sc_law_take.nd rfl (Or.inl rfl) h))
      (vss_cons (vs_while (vt_w (vw_and (vt_cmp oLt (vx_dgetL hu (vl_slot (pv 0)) (vx_str pe_str)) (vb_of (vx_int pe_int)) (nomark _)) (vw_and1 (vt_cmp oLt (vx_dgetL hu (vl_slot (pv 0)) (vx_str pe_str)) (vb_of (vx_b1 cLenV (vb_of (vx_var (pv 2))) (fun h1 h2 => pe_callB h1 (by rfl) (T.b 73) (by decide +kernel) h2))) (nomark _))))) (vss_cons (vs_if (vt_cmp oGe (vx_ix iSeq (vx_var (pv 2)) (vx_dgetL hu (vl_slot (pv 0)) (vx_str pe_str))) (vb_of (vx_op oPow (vx_int pe_int) (vb_of (vx_int pe_int)))) (nomark _)) (vss_one (vs_putD (vl_slot (pv 0)) (vx_str pe_str) (vx_ix iSeq (vx_var (pv 2)) (vx_dgetL hu (vl_slot (pv 0)) (vx_str pe_str))) (fun h1 h2 h3 => ps_dput hu h1 h2 h3 rfl))) vss_nil)
      (vss_one (vs_putD (vl_slot (pv 0)) (vx_str pe_str) (vx_op oAdd (vx_dgetL hu (vl_slot (pv 0)) (vx_str pe_str)) (vb_of (vx_int pe_int))) (fun h1 h2 h3 => ps_dput hu h1 h2 h3 rfl)))) (fun h1 h2 => ps_while (passes_of rfl) h1 h2))
      (vss_cons (vs_if (vt_cmp oGt (vx_dgetL hu (vl_slot (pv 0)) (vx_str pe_str)) (vb_of (vx_int pe_int)) (nomark _)) (vss_cons (vs_set (i := 3) (vx_op oMod (vx_dgetL hu (vl_slot (pv 0)) (vx_str pe_str)) (vb_of (vx_var (pv 1)))) (fun h => ps_set (i := 3) sc_law_take.nd rfl (Or.inl rfl) h))
      (vss_cons (vs_putD (vl_slot (pv 0)) (vx_str pe_str) (vx_op oDiv (vx_dgetL hu (vl_slot (pv 0)) (vx_str pe_str)) (vb_of (vx_var (pv 1)))) (fun h1 h2 h3 => ps_dput hu h1 h2 h3 rfl))
      (vss_one (vs_ret (vx_var (pv 3)))))) vss_nil)
      (vss_cons (vs_set (i := 4) (vx_int pe_int) (fun h => ps_set (i := 4) sc_law_take.nd rfl (Or.inl rfl) h))
      (vss_cons (vs_if (vt_cmp oGt (vx_b1 cLenV (vb_of (vx_var (pv 2))) (fun h1 h2 => pe_callB h1 (by rfl) (T.b 73) (by decide +kernel) h2)) (vb_of (vx_int pe_int)) (nomark _)) (vss_one (vs_set (i := 4) (vx_ix iSeq (vx_var (pv 2)) (vx_op oMod (vx_dgetL hu (vl_slot (pv 0)) (vx_str pe_str)) (vb_of (vx_b1 cLenV (vb_of (vx_var (pv 2))) (fun h1 h2 => pe_callB h1 (by rfl) (T.b 73) (by decide +kernel) h2))))) (fun h => ps_set (i := 4) sc_law_take.nd rfl (Or.inl rfl) h))) vss_nil)
      (vss_cons (vs_putD (vl_slot (pv 0)) (vx_str pe_str) (vx_op oAdd (vx_dgetL hu (vl_slot (pv 0)) (vx_str pe_str)) (vb_of (vx_int pe_int))) (fun h1 h2 h3 => ps_dput hu h1 h2 h3 rfl))
      (vss_cons (vs_putD (vl_slot (pv 0)) (vx_str pe_str) (vx_op oMod (vx_op oAdd (vx_op oAdd (vx_op oMul (vx_dgetL hu (vl_slot (pv 0)) (vx_str pe_str)) (vb_of (vx_int pe_int))) (vb_of (vx_var (pv 4)))) (vb_of (vx_dgetL hu (vl_slot (pv 0)) (vx_str pe_str)))) (vb_of (vx_int pe_int))) (fun h1 h2 h3 => ps_dput hu h1 h2 h3 rfl))
      (vss_one (vs_ret (vx_op oMod (vx_op oMod (vx_op oAdd (vx_op oMul (vx_dgetL hu (vl_slot (pv 0)) (vx_str pe_str)) (vb_of (vx_dgetL hu (vl_slot (pv 0)) (vx_str pe_str)))) (vb_of (vx_op oMul (vx_int pe_int) (vb_of (vx_dgetL hu (vl_slot (pv 0)) (vx_str pe_str)))))) (vb_of (vx_int pe_int))) (vb_of (vx_var (pv 1))))))))))))), fun ds cs Q Er hl h => ?_⟩
  clear hl
  obtain ⟨st, many, rfl, ⟨c, a, r, t, m, rfl, hc, hl, ha, hr, ht, hm, hm2⟩, h1, h2, k⟩ := h
  walk_at "vrd"
  generalize hV : kSeq _ (vends [0] Q Er) = V
  have exit : ∀ a r, 0 ≤ a → 0 ≤ r → V.nx ⟨[some (stD c a r t m), some (.int many), some (.list (c.map .int)), none, none], cs⟩ := by
    intro a r ha hr
    subst hV
    walk_at "vrd"
    split
    · rename_i c1
      rw [gMod_int (by unfold modB; exact decide_eq_true h1)]
      walk_at "vrd"
      rw [gDiv_int (by unfold divB; rw [decide_eq_true h1, decide_eq_true h2]; rfl)]
      walk_at "vrd"
      exact k _ _ (Int.emod_nonneg _ (by omega)) (Int.emod_lt_of_pos _ h1) ⟨c, a, _, t, m, rfl, hc, hl, ha, Int.ediv_nonneg hr (by omega), ht, hm, hm2⟩
    · have hmul : ∀ x : Int, mulB (x % 2147483647) (x % 2147483647) = true := by
        intro x
        have h0 : 0 ≤ x % 2147483647 := Int.emod_nonneg _ (by decide)
        have h3 : x % 2147483647 < 2147483647 := Int.emod_lt_of_pos _ (by decide)
        unfold mulB
        rw [decide_eq_true (show -(2 ^ 64) < x % 2147483647 by omega), decide_eq_true (show x % 2147483647 < 2 ^ 64 by omega)]
        rfl
      split
      · rename_i c2
        rw [gMod_int (by unfold modB; exact decide_eq_true c2)]
        walk_at "vrd"
        rw [List.length_map] at c2 ⊢
        obtain ⟨x, hx, ex⟩ := ix_nat (c := c) (i := t % (c.length : Int)) (Int.emod_nonneg _ (by omega)) (Int.emod_lt_of_pos _ c2)
        rw [ex]
        walk_at "vrd"
        rw [gMul_int (hmul _)]
        walk_at "vrd"
        rw [gMod_int (by unfold modB; exact decide_eq_true h1)]
        walk_at "vrd"
        exact k _ _ (Int.emod_nonneg _ (by omega)) (Int.emod_lt_of_pos _ h1) ⟨c, a, r, t + 1, _, rfl, hc, hl, ha, hr, by omega, Int.emod_nonneg _ (by decide), Int.emod_lt_of_pos _ (by decide)⟩
      · rw [gMul_int (hmul _)]
        walk_at "vrd"
        rw [gMod_int (by unfold modB; exact decide_eq_true h1)]
        walk_at "vrd"
        exact k _ _ (Int.emod_nonneg _ (by omega)) (Int.emod_lt_of_pos _ h1) ⟨c, a, r, t + 1, _, rfl, hc, hl, ha, hr, by omega, Int.emod_nonneg _ (by decide), Int.emod_lt_of_pos _ (by decide)⟩
  refine r_wh (fun m' s => ∃ a r, s = ⟨[some (stD c a r t m), some (.int many), some (.list (c.map .int)), none, none], cs⟩ ∧ 0 ≤ a ∧ 0 ≤ r ∧ m' = (c.length - a).toNat) _ ⟨a, r, rfl, ha, hr, rfl⟩ ?_
  rintro m' s ⟨a, r, rfl, ha, hr, rfl⟩
  walk_at "vrd"
  split
  · split
    · rename_i c1 c2
      rw [List.length_map] at c2
      obtain ⟨x, hx, ex⟩ := ix_nat ha c2
      rw [ex]
      walk_at "vrd"
      split
      · rw [ex]
        walk_at "vrd"
        exact ⟨_, by omega, _, _, rfl, by omega, hc x hx, rfl⟩
      · exact ⟨_, by omega, _, _, rfl, by omega, hr, rfl⟩
    · exact exit a r ha hr
  · exact exit a r ha hr
theorem sc_law_pick : FnScope ["_law_state", "_law_some"] ["_law_state", "_law_some"] (defScope slaw_pick) := ⟨rfl, rfl, rfl, by decide +kernel, rfl, by decide +kernel, by decide +kernel⟩
theorem v_law_pick (T : Tw fa fn ts xb w K mg) : GFn P w K mg base 2 (He.fAd K dlaw_pick.at_) ["_law_state", "_law_some"] (spV K TL 2 [0] S_pick) := by
  obtain ⟨fd, F⟩ := T.says.def_ 11 (d := dlaw_pick) rfl
  refine okV (fun i => ([0] : List Nat).contains i) [0] _ F sc_law_pick (fun _ _ _ _ _ _ us hl => match us, hl with | [_, _], _ => rfl) rfl rfl (by decide) ⟨_, fun cdv hcdv A outer s H E hr => have hu := hu_of hr.rm; have hu65 := hu65_of hr.rm; (vss_one (vs_ret (vx_ix iSeq (vx_var (pv 1)) (vx_call (v_law_take T) (hr.mono (by decide)) (T.g 10) (fun σ => passAt (takes_of rfl rfl rfl rfl) σ) (vr_cons (vl_slot (pv 0)) (vr_cons (vl_val (vx_b1 cLenV (vb_of (vx_var (pv 1))) (fun h1 h2 => pe_callB h1 (by rfl) (T.b 73) (by decide +kernel) h2))) vr_nil)))))), fun ds cs Q Er hl h => ?_⟩
  clear hl
  obtain ⟨st, xs, rfl, hst, hne, hlx, k⟩ := h
  walk_at "vrd"
  walk_at "call"
  have hpos : 0 < xs.length := List.length_pos_iff.mpr hne
  refine ⟨st, _, rfl, hst, by omega, by omega, fun v st' h0 h1 hok => ?_⟩
  walk_at "vrd"
  obtain ⟨x, hx, ex⟩ := ix_list (xs := xs) h0 h1
  rw [ex]
  walk_at "vrd"
  exact k x st' hx hok
def S_begun : Fs := fun ds cs P _ => ∃ c : List Int, ds = [.lsF c] ∧ c.length ≤ 63 ∧ ∀ a st, cs a = none → StOk st → P (.ref a) [] (cput cs a (some st))
theorem sc_law_begun : FnScope ["_law_script", "_law_cell"] ["_law_script"] (defScope slaw_begun) := ⟨rfl, rfl, rfl, by decide +kernel, rfl, by decide +kernel, by decide +kernel⟩
theorem v_law_begun (T : Tw fa fn ts xb w K mg) : GFn P w K mg base 2 (He.fAd K dlaw_begun.at_) ["_law_script"] (spV K TL 1 [] S_begun) := by
  obtain ⟨fd, F⟩ := T.says.def_ 9 (d := dlaw_begun) rfl
  refine okV (fun i => ([] : List Nat).contains i) [] _ F sc_law_begun (fun _ _ _ _ _ _ us hl => match us, hl with | [_], _ => rfl) rfl rfl (by decide) ⟨_, fun cdv hcdv A outer s H E hr => have hu := hu_of hr.rm; have hu65 := hu65_of hr.rm; (vss_one (vs_retN2 (vn_disp (vp_cons (vx_str pe_str) (vx_of (vn_lc (vs := [1]) (g := gName 1) (vi_lsF (vx_var (pv 0)) (fun h => piL K h)) (dgw_name (by decide) rfl rfl) rfl (fun {wi} hi => pe_lc (own := [("_law_cell", 1)]) (g := gName 1) rfl sc_law_begun.nd hi (blkOk_by (N := ["_law_script", "_law_cell"]) (sc := defScope slaw_begun) (by decide +kernel)) (fun _ _ _ _ _ => pg_name (i := 1) sc_law_begun.nd rfl (Or.inl rfl)) (fun _ _ _ _ _ => vts_nil) (fun _ _ _ _ _ => VX.can (vx_ba cAbsV (va_cons (vx_var (pv 1)) va_nil) (fun h1 h2 => pe_callB h1 (by rfl) (T.b 67) (by decide +kernel) h2)))))) (vp_cons (vx_str pe_str) (vx_int pe_int) (vp_cons (vx_str pe_str) (vx_int pe_int) (vp_cons (vx_str pe_str) (vx_int pe_int) (vp_cons (vx_str pe_str) (vx_op oAdd (vx_int pe_int) (vb_of (vx_b1 cLenV (vb_of (vx_var (pv 0))) (fun h1 h2 => pe_callB h1 (by rfl) (T.b 73) (by decide +kernel) h2)))) vp_nil))))) (fun h => pe_disp h (by rfl) (by rfl) (fun z => by cases z) (by decide))))), fun ds cs Q Er hl h => ?_⟩
  clear hl
  obtain ⟨c, rfl, hlen, k⟩ := h
  walk_at "vrd"
  refine r_map (fun d => gAbs [d]) rfl (by rw [List.length_map]; omega) (fun d hd R N hR hN => ?_) ?_
  · obtain ⟨x, hx, rfl⟩ := List.mem_map.mp hd
    walk_at "vrd"
    rw [show gAbs [.int x] = some (.int (if x < 0 then -x else x)) from rfl]
    walk_at "vrd"
    exact hR _ rfl
  · walk_at "vrd"
    intro a ha
    have e : List.filterMap (fun d => gAbs [d]) (c.map Dt.int) = (c.map fun x => if x < 0 then -x else x).map Dt.int := by
      clear k hlen
      induction c with
      | nil => rfl
      | cons x r ih =>
        show List.filterMap _ (Dt.int x :: r.map Dt.int) = _
        rw [List.filterMap_cons, show gAbs [.int x] = some (.int (if x < 0 then -x else x)) from rfl]
        exact congrArg (List.cons _) ih
    rw [e]
    refine k a _ ha ⟨_, 0, 0, 0, _, rfl, fun x hx => ?_, by rw [List.length_map]; omega, by decide, by decide, by decide, ?_, ?_⟩
    · obtain ⟨y, _, rfl⟩ := List.mem_map.mp hx
      split <;> omega
    · omega
    · omega
end
end VD
/-! UMath: choosing under way, in plain numbers: what is paid, where phases end, what no choice goes below. -/
namespace UM
open Ts

/-- an item of a row of ints -/
def at0 (r : List Int) (k : Nat) : Int := r.getD k 0
def row (rows : List (List Int)) (p : Nat) : List Int := rows.getD p []
def turn (toll : Int) (a k : Nat) : Int := if a = k then 0 else toll
theorem turn_nn {toll : Int} (h : 0 ≤ toll) (a k : Nat) : 0 ≤ turn toll a k ∧ turn toll a k ≤ toll := by
  unfold turn
  split <;> omega
/-- the first of some places at which the row is least -/
def leastOf (r : List Int) (places : List Nat) : Int := lmin (places.map (at0 r))
def firstLeast (r : List Int) (places : List Nat) : Nat := (places.filter fun p => decide (at0 r p = leastOf r places)).headD 0
theorem firstLeast_mem {r : List Int} {places : List Nat} (h : places ≠ []) : firstLeast r places ∈ places ∧ at0 r (firstLeast r places) = leastOf r places := by
  have hm : leastOf r places ∈ places.map (at0 r) := lmin_mem (by simpa using h)
  obtain ⟨q, hq, e⟩ := List.mem_map.mp hm
  have hf : q ∈ places.filter fun p => decide (at0 r p = leastOf r places) := List.mem_filter.mpr ⟨hq, decide_eq_true e⟩
  unfold firstLeast
  cases z : places.filter fun p => decide (at0 r p = leastOf r places) with
  | nil =>
    rw [z] at hf
    cases hf
  | cons y ys =>
    have hy : y ∈ places.filter fun p => decide (at0 r p = leastOf r places) := by
      rw [z]
      exact List.mem_cons_self
    have := List.mem_filter.mp hy
    exact ⟨this.1, of_decide_eq_true this.2⟩

structure St where
  kind : Nat
  sums : List Int
  paid : Int
  phases : Nat
def grown (s : St) (r : List Int) : List Int := List.zipWith (· + ·) s.sums r
def low (toll : Int) (n : Nat) (sums : List Int) : List Nat := (List.range n).filter fun k => decide (at0 sums k < toll)
/-- whether a row ends a phase -/
def ending (toll : Int) (n : Nat) (s : St) (r : List Int) : Bool := decide (¬ at0 (grown s r) s.kind < toll) && (low toll n (grown s r)).isEmpty
def nextKind (toll : Int) (n : Nat) (s : St) (r : List Int) : Nat :=
  if at0 (grown s r) s.kind < toll then s.kind
  else if (low toll n (grown s r)).isEmpty then (if at0 r s.kind = lmin r then s.kind else firstLeast r (List.range n))
  else firstLeast (grown s r) (low toll n (grown s r))
def step (toll : Int) (n : Nat) (s : St) (r : List Int) : St :=
  { kind := nextKind toll n s r
    sums := if ending toll n s r then List.replicate n 0 else grown s r
    paid := s.paid + (at0 r (nextKind toll n s r) + turn toll s.kind (nextKind toll n s r))
    phases := if ending toll n s r then s.phases + 1 else s.phases }
def st0 (n : Nat) : St := ⟨0, List.replicate n 0, 0, 0⟩
/-- the state behind m rows -/
def S (toll : Int) (n : Nat) (rows : List (List Int)) : Nat → St
  | 0 => st0 n
  | m + 1 => step toll n (S toll n rows m) (row rows m)
def ended (toll : Int) (n : Nat) (rows : List (List Int)) (p : Nat) : Bool := ending toll n (S toll n rows p) (row rows p)
def ends (toll : Int) (n : Nat) (rows : List (List Int)) : List Nat := (List.range rows.length).filter (ended toll n rows)
def choice (toll : Int) (n : Nat) (rows : List (List Int)) : List Nat := (List.range rows.length).map fun p => (S toll n rows (p + 1)).kind
/-- a kind's sum of the rows from a to ahead of b -/
def col (rows : List (List Int)) (j a b : Nat) : Int := ((List.range (b - a)).map fun i => at0 (row rows (a + i)) j).sum
theorem sum_snoc (l : List Int) (x : Int) : (l ++ [x]).sum = l.sum + x := by simp
theorem col_self (rows : List (List Int)) (j a : Nat) : col rows j a a = 0 := by
  unfold col
  rw [Nat.sub_self]
  rfl
theorem col_succ (rows : List (List Int)) (j : Nat) {a b : Nat} (h : a ≤ b) : col rows j a (b + 1) = col rows j a b + at0 (row rows b) j := by
  unfold col
  rw [show b + 1 - a = (b - a) + 1 by omega, List.range_succ, List.map_append, List.map_singleton, sum_snoc, show a + (b - a) = b by omega]

/-- what the law holds: rows of n numbers of at least one -/
structure Good (toll : Int) (n : Nat) (rows : List (List Int)) : Prop where
  t1 : 1 ≤ toll
  n1 : 1 ≤ n
  len : ∀ p, p < rows.length → (row rows p).length = n
  pos : ∀ p, p < rows.length → ∀ k, k < n → 1 ≤ at0 (row rows p) k

section
variable {toll : Int} {n : Nat} {rows : List (List Int)}
theorem at0_zip {xs ys : List Int} {k : Nat} (h1 : k < xs.length) (h2 : k < ys.length) : at0 (List.zipWith (· + ·) xs ys) k = at0 xs k + at0 ys k := by
  unfold at0
  rw [List.getD_eq_getElem?_getD, List.getD_eq_getElem?_getD, List.getD_eq_getElem?_getD, List.getElem?_zipWith, List.getElem?_eq_getElem h1, List.getElem?_eq_getElem h2]
  rfl
theorem at0_rep {m k : Nat} {x : Int} (h : k < m) : at0 (List.replicate m x) k = x := by
  unfold at0
  rw [List.getD_eq_getElem?_getD, List.getElem?_replicate, if_pos h]
  rfl
/-- the kinds of a state -/
structure Ok (toll : Int) (n : Nat) (s : St) : Prop where
  k : s.kind < n
  l : s.sums.length = n
  a : at0 s.sums s.kind < toll
theorem mem_low {sums : List Int} {k : Nat} : k ∈ low toll n sums ↔ k < n ∧ at0 sums k < toll := by
  unfold low
  rw [List.mem_filter, List.mem_range, decide_eq_true_eq]
theorem nextKind_lt {s : St} {r : List Int} (o : Ok toll n s) : nextKind toll n s r < n := by
  unfold nextKind
  split
  · exact o.k
  · split
    · split
      · exact o.k
      · exact List.mem_range.mp (firstLeast_mem (by
          intro e
          have := o.k
          rw [List.range_eq_nil] at e
          omega)).1
    · rename_i h
      exact (mem_low.mp (firstLeast_mem (by
        intro e
        rw [e] at h
        exact h rfl)).1).1
theorem step_ok {s : St} {r : List Int} (t1 : 1 ≤ toll) (o : Ok toll n s) (hr : r.length = n) : Ok toll n (step toll n s r) := by
  have hk := nextKind_lt (r := r) o
  have gl : (grown s r).length = n := by
    unfold grown
    rw [List.length_zipWith, o.l, hr, Nat.min_self]
  refine ⟨hk, ?_, ?_⟩
  · show (if ending toll n s r then List.replicate n 0 else grown s r).length = n
    split
    · exact List.length_replicate
    · exact gl
  · show at0 (if ending toll n s r then List.replicate n 0 else grown s r) (nextKind toll n s r) < toll
    cases he : ending toll n s r with
    | true =>
      rw [if_pos rfl, at0_rep hk]
      omega
    | false =>
      rw [if_neg Bool.false_ne_true]
      by_cases h : at0 (grown s r) s.kind < toll
      · have : nextKind toll n s r = s.kind := by
          unfold nextKind
          rw [if_pos h]
        rw [this]
        exact h
      · have hl : (low toll n (grown s r)).isEmpty = false := by
          unfold ending at he
          rw [decide_eq_true h, Bool.true_and] at he
          exact he
        have : nextKind toll n s r = firstLeast (grown s r) (low toll n (grown s r)) := by
          unfold nextKind
          rw [if_neg h, hl, if_neg Bool.false_ne_true]
        rw [this]
        exact (mem_low.mp (firstLeast_mem (by
          intro e
          rw [e] at hl
          cases hl)).1).2
theorem S_ok (G : Good toll n rows) : ∀ m, m ≤ rows.length → Ok toll n (S toll n rows m)
  | 0, _ => ⟨G.n1, List.length_replicate, by
      show at0 (List.replicate n 0) 0 < toll
      rw [at0_rep G.n1]
      exact Int.lt_of_lt_of_le Int.zero_lt_one G.t1⟩
  | m + 1, h => step_ok G.t1 (S_ok G m (Nat.le_of_succ_le h)) (G.len m h)

/-- a phase begins -/
def Fresh (toll : Int) (n : Nat) (rows : List (List Int)) (f : Nat) : Prop := (S toll n rows f).sums = List.replicate n 0
def Calm (toll : Int) (n : Nat) (rows : List (List Int)) (f m : Nat) : Prop := ∀ p, f ≤ p → p < m → ended toll n rows p = false
theorem fresh_0 : Fresh toll n rows 0 := rfl
theorem fresh_end {e : Nat} (h : ended toll n rows e = true) : Fresh toll n rows (e + 1) := by
  show (if ending toll n (S toll n rows e) (row rows e) then List.replicate n 0 else _) = _
  rw [if_pos (show ending toll n (S toll n rows e) (row rows e) = true from h)]
theorem grown_col (G : Good toll n rows) {f m : Nat} (hf : f ≤ m) (hm : m < rows.length) (h : ∀ k, k < n → at0 (S toll n rows m).sums k = col rows k f m) : ∀ k, k < n → at0 (grown (S toll n rows m) (row rows m)) k = col rows k f (m + 1) := by
  intro k hk
  have o := S_ok G m (Nat.le_of_lt hm)
  unfold grown
  rw [at0_zip (by rw [o.l]; exact hk) (by rw [G.len m hm]; exact hk), h k hk, col_succ rows k hf]
theorem sums_col (G : Good toll n rows) {f : Nat} (hF : Fresh toll n rows f) : ∀ d, f + d ≤ rows.length → Calm toll n rows f (f + d) → ∀ k, k < n → at0 (S toll n rows (f + d)).sums k = col rows k f (f + d)
  | 0, _, _, k, hk => by
    rw [Nat.add_zero, col_self, hF, at0_rep hk]
  | d + 1, hd, hc, k, hk => by
    have ih := sums_col G hF d (by omega) (fun p h1 h2 => hc p h1 (by omega))
    have hn : ended toll n rows (f + d) = false := hc (f + d) (by omega) (by omega)
    have e : (S toll n rows (f + d + 1)).sums = grown (S toll n rows (f + d)) (row rows (f + d)) := by
      show (if ending toll n (S toll n rows (f + d)) (row rows (f + d)) then _ else _) = _
      rw [if_neg (by rw [show ending toll n (S toll n rows (f + d)) (row rows (f + d)) = false from hn]; exact Bool.false_ne_true)]
    rw [show f + (d + 1) = f + d + 1 by omega, e]
    exact grown_col G (by omega) (by omega) ih k hk
/-- at a row that ends a phase all sums have reached the toll -/
theorem end_all {e : Nat} (h : ended toll n rows e = true) : ∀ k, k < n → toll ≤ at0 (grown (S toll n rows e) (row rows e)) k := by
  intro k hk
  have h2 : (low toll n (grown (S toll n rows e) (row rows e))).isEmpty = true := by
    have z : ending toll n (S toll n rows e) (row rows e) = true := h
    unfold ending at z
    exact (Bool.and_eq_true_iff.mp z).2
  apply Int.not_lt.mp
  intro hlt
  have : k ∈ low toll n (grown (S toll n rows e) (row rows e)) := mem_low.mpr ⟨hk, hlt⟩
  rw [List.isEmpty_iff.mp h2] at this
  cases this

/-! ### what is paid -/
/-- what a phase may have cost, by its sums -/
def pot (toll : Int) (x : Int) : Int := if x < toll then x else 2 * toll - 1
def Pot (toll : Int) (n : Nat) (f : Nat → Int) : Int := ((List.range n).map fun k => pot toll (f k)).sum
theorem Pot_succ (f : Nat → Int) (m : Nat) : Pot toll (m + 1) f = Pot toll m f + pot toll (f m) := by
  unfold Pot
  rw [List.range_succ, List.map_append, List.map_singleton, sum_snoc]
theorem pot_mono (t1 : 1 ≤ toll) {x y : Int} (h : x ≤ y) : pot toll x ≤ pot toll y := by
  unfold pot
  split <;> split <;> omega
theorem Pot_mono (t1 : 1 ≤ toll) {f g : Nat → Int} : ∀ m, (∀ k, k < m → f k ≤ g k) → Pot toll m f ≤ Pot toll m g
  | 0, _ => Int.le_refl _
  | m + 1, h => by
    rw [Pot_succ, Pot_succ]
    have a := Pot_mono t1 m fun k hk => h k (Nat.lt_succ_of_lt hk)
    have b := pot_mono t1 (h m (Nat.lt_succ_self m))
    omega
/-- one place's gain over the others' -/
theorem Pot_gain (t1 : 1 ≤ toll) {f g : Nat → Int} {i : Nat} {c : Int} : ∀ m, (∀ k, k < m → f k ≤ g k) → i < m → pot toll (f i) + c ≤ pot toll (g i) → Pot toll m f + c ≤ Pot toll m g
  | 0, _, h, _ => by omega
  | m + 1, h, hi, hc => by
    rw [Pot_succ, Pot_succ]
    by_cases e : i = m
    · subst e
      have a := Pot_mono t1 i fun k hk => h k (Nat.lt_succ_of_lt hk)
      omega
    · have a := Pot_gain t1 m (fun k hk => h k (Nat.lt_succ_of_lt hk)) (by omega) hc
      have b := pot_mono t1 (h m (Nat.lt_succ_self m))
      omega
theorem Pot_gain2 (t1 : 1 ≤ toll) {f g : Nat → Int} {i j : Nat} {c d : Int} : ∀ m, (∀ k, k < m → f k ≤ g k) → i < m → j < m → i ≠ j → pot toll (f i) + c ≤ pot toll (g i) → pot toll (f j) + d ≤ pot toll (g j) → Pot toll m f + (c + d) ≤ Pot toll m g
  | 0, _, h, _, _, _, _ => by omega
  | m + 1, h, hi, hj, hij, hc, hd => by
    rw [Pot_succ, Pot_succ]
    by_cases e : i = m
    · subst e
      have a := Pot_gain t1 (i := j) (c := d) i (fun k hk => h k (Nat.lt_succ_of_lt hk)) (by omega) hd
      omega
    · by_cases e2 : j = m
      · subst e2
        have a := Pot_gain t1 (i := i) (c := c) j (fun k hk => h k (Nat.lt_succ_of_lt hk)) (by omega) hc
        omega
      · have a := Pot_gain2 t1 m (fun k hk => h k (Nat.lt_succ_of_lt hk)) (by omega) (by omega) hij hc hd
        have b := pot_mono t1 (h m (Nat.lt_succ_self m))
        omega
/-- no more than this, one kind's sum being below the toll -/
theorem Pot_le {f : Nat → Int} (t1 : 1 ≤ toll) : ∀ m, Pot toll m f ≤ (m : Int) * (2 * toll - 1)
  | 0 => by
    show (0 : Int) ≤ _
    simp
  | m + 1 => by
    rw [Pot_succ]
    have a := Pot_le (f := f) t1 m
    have b : pot toll (f m) ≤ 2 * toll - 1 := by
      unfold pot
      split <;> omega
    have c : ((m + 1 : Nat) : Int) * (2 * toll - 1) = (m : Int) * (2 * toll - 1) + (2 * toll - 1) := by
      rw [Int.natCast_add, Int.add_mul]
      simp
    omega
theorem Pot_le1 {f : Nat → Int} (t1 : 1 ≤ toll) {i : Nat} : ∀ m, i < m → f i < toll → Pot toll m f ≤ (m : Int) * (2 * toll - 1) - toll
  | 0, h, _ => by omega
  | m + 1, hi, hf => by
    rw [Pot_succ]
    have c : ((m + 1 : Nat) : Int) * (2 * toll - 1) = (m : Int) * (2 * toll - 1) + (2 * toll - 1) := by
      rw [Int.natCast_add, Int.add_mul]
      simp
    by_cases e : i = m
    · subst e
      have a := Pot_le (f := f) t1 i
      have b : pot toll (f i) ≤ toll - 1 := by
        unfold pot
        rw [if_pos hf]
        omega
      omega
    · have a := Pot_le1 (f := f) t1 m (by omega) hf
      have b : pot toll (f m) ≤ 2 * toll - 1 := by
        unfold pot
        split <;> omega
      omega
theorem phase_paid (G : Good toll n rows) {f : Nat} (hF : Fresh toll n rows f) : ∀ d, f + d ≤ rows.length → Calm toll n rows f (f + d) →
    (S toll n rows (f + d)).paid - (S toll n rows f).paid ≤ Pot toll n fun k => at0 (S toll n rows (f + d)).sums k
  | 0, _, _ => by
    rw [Nat.add_zero, Int.sub_self]
    have : ∀ m, (0 ≤ Pot toll m fun k => at0 (S toll n rows f).sums k) ∨ n < m := by
      intro m
      induction m with
      | zero => exact .inl (Int.le_refl _)
      | succ m ih =>
        rcases ih with ih | ih
        · by_cases hm : m < n
          · refine .inl ?_
            rw [Pot_succ, hF]
            have : pot toll (at0 (List.replicate n 0) m) = 0 := by
              rw [at0_rep hm]
              unfold pot
              rw [if_pos (Int.lt_of_lt_of_le Int.zero_lt_one G.t1)]
            rw [this, ← hF]
            omega
          · exact .inr (by omega)
        · exact .inr (by omega)
    rcases this n with h | h
    · exact h
    · exact absurd h (Nat.lt_irrefl n)
  | d + 1, hd, hc => by
    have ih := phase_paid G hF d (by omega) (fun p h1 h2 => hc p h1 (by omega))
    have hn : ended toll n rows (f + d) = false := hc (f + d) (by omega) (by omega)
    have hm : f + d < rows.length := by omega
    have o := S_ok G (f + d) (Nat.le_of_lt hm)
    rw [show f + (d + 1) = f + d + 1 by omega]
    generalize hs : S toll n rows (f + d) = s at ih o
    generalize hr : row rows (f + d) = r
    have hrl : r.length = n := by
      rw [← hr]
      exact G.len _ hm
    have hpos : ∀ k, k < n → 1 ≤ at0 r k := by
      rw [← hr]
      exact G.pos _ hm
    have he : ending toll n s r = false := by
      rw [← hs, ← hr]
      exact hn
    have hS : S toll n rows (f + d + 1) = step toll n s r := by
      rw [← hs, ← hr]
      rfl
    rw [hS]
    have e : (step toll n s r).sums = grown s r := by
      show (if ending toll n s r then _ else _) = _
      rw [he, if_neg Bool.false_ne_true]
    have ep : (step toll n s r).paid = s.paid + (at0 r (nextKind toll n s r) + turn toll s.kind (nextKind toll n s r)) := rfl
    have gk : ∀ k, k < n → at0 (grown s r) k = at0 s.sums k + at0 r k := fun k hk => by
      unfold grown
      rw [at0_zip (by rw [o.l]; exact hk) (by rw [hrl]; exact hk)]
    rw [e, ep]
    have mono : ∀ k, k < n → at0 s.sums k ≤ at0 (grown s r) k := fun k hk => by
      rw [gk k hk]
      have := hpos k hk
      omega
    by_cases h : at0 (grown s r) s.kind < toll
    · have ek : nextKind toll n s r = s.kind := by
        unfold nextKind
        rw [if_pos h]
      rw [ek]
      have et : turn toll s.kind s.kind = 0 := by
        unfold turn
        rw [if_pos rfl]
      have gn := Pot_gain G.t1 (f := fun k => at0 s.sums k) (g := fun k => at0 (grown s r) k) (i := s.kind) (c := at0 r s.kind) n mono o.k (by
        show pot toll (at0 s.sums s.kind) + _ ≤ pot toll (at0 (grown s r) s.kind)
        unfold pot
        rw [if_pos h, if_pos o.a, gk s.kind o.k]
        exact Int.le_refl _)
      rw [et]
      omega
    · have hl : (low toll n (grown s r)).isEmpty = false := by
        unfold ending at he
        rw [decide_eq_true h, Bool.true_and] at he
        exact he
      have ek : nextKind toll n s r = firstLeast (grown s r) (low toll n (grown s r)) := by
        unfold nextKind
        rw [if_neg h, hl, if_neg Bool.false_ne_true]
      have hj := mem_low.mp (firstLeast_mem (r := grown s r) (places := low toll n (grown s r)) (by
        intro z
        rw [z] at hl
        cases hl)).1
      rw [← ek] at hj
      generalize nextKind toll n s r = j at hj ek
      have hij : s.kind ≠ j := fun z => h (by rw [z]; exact hj.2)
      have et := turn_nn (toll := toll) (by have := G.t1; omega) s.kind j
      have hp := hpos s.kind o.k
      have oa := o.a
      have gk1 := gk s.kind o.k
      have gj := gk j hj.1
      have hpj := hpos j hj.1
      have gn := Pot_gain2 G.t1 (f := fun k => at0 s.sums k) (g := fun k => at0 (grown s r) k) (i := s.kind) (j := j) (c := toll) (d := at0 r j) n mono o.k hj.1 hij (by
        show pot toll (at0 s.sums s.kind) + toll ≤ pot toll (at0 (grown s r) s.kind)
        unfold pot
        rw [if_neg h, if_pos o.a]
        omega) (by
        show pot toll (at0 s.sums j) + _ ≤ pot toll (at0 (grown s r) j)
        have : at0 s.sums j < toll := by
          have := hj.2
          omega
        unfold pot
        rw [if_pos hj.2, if_pos this, gj]
        exact Int.le_refl _)
      omega
/-- an open phase costs less than so much -/
theorem open_paid (G : Good toll n rows) {f m : Nat} (hF : Fresh toll n rows f) (hfm : f ≤ m) (hm : m ≤ rows.length) (hc : Calm toll n rows f m) :
    (S toll n rows m).paid - (S toll n rows f).paid ≤ (n : Int) * (2 * toll - 1) - toll := by
  have e : f + (m - f) = m := by omega
  have a := phase_paid G hF (m - f) (by omega) (by rw [e]; exact hc)
  rw [e] at a
  have o := S_ok G m hm
  have b := Pot_le1 (toll := toll) (f := fun k => at0 (S toll n rows m).sums k) G.t1 n o.k o.a
  omega
theorem range_ne (h : 1 ≤ n) : List.range n ≠ [] := fun e => by
  rw [List.range_eq_nil] at e
  omega
theorem leastOf_range {r : List Int} (h : r.length = n) : leastOf r (List.range n) = lmin r := by
  unfold leastOf
  have : (List.range n).map (at0 r) = r := by
    apply List.ext_getElem
    · simp [h]
    · intro i h1 h2
      simp [at0, h2]
  rw [this]
theorem end_kind (G : Good toll n rows) {e : Nat} (he : e < rows.length) (h : ended toll n rows e = true) : at0 (row rows e) (S toll n rows (e + 1)).kind = lmin (row rows e) := by
  have hz : ending toll n (S toll n rows e) (row rows e) = true := h
  unfold ending at hz
  obtain ⟨h1, h2⟩ := Bool.and_eq_true_iff.mp hz
  show at0 (row rows e) (nextKind toll n (S toll n rows e) (row rows e)) = _
  unfold nextKind
  rw [if_neg (of_decide_eq_true h1), if_pos h2]
  split
  · assumption
  · rw [(firstLeast_mem (range_ne G.n1)).2, leastOf_range (G.len e he)]
/-- an ended phase pays less than two tolls a kind, and its last row's least -/
theorem end_paid (G : Good toll n rows) {f e : Nat} (hF : Fresh toll n rows f) (hfe : f ≤ e) (he : e < rows.length) (hc : Calm toll n rows f e) (h : ended toll n rows e = true) :
    (S toll n rows (e + 1)).paid - (S toll n rows f).paid ≤ (n : Int) * (2 * toll - 1) + lmin (row rows e) := by
  have a := open_paid G hF hfe (Nat.le_of_lt he) hc
  have b := end_kind G he h
  have ep : (S toll n rows (e + 1)).paid = (S toll n rows e).paid + (at0 (row rows e) (S toll n rows (e + 1)).kind + turn toll (S toll n rows e).kind (S toll n rows (e + 1)).kind) := rfl
  have t := turn_nn (toll := toll) (by have := G.t1; omega) (S toll n rows e).kind (S toll n rows (e + 1)).kind
  rw [ep, b]
  omega

/-! ### what no choice goes below -/
/-- what a choice c has cost ahead of row m -/
def prev (c : Nat → Nat) (m : Nat) : Nat := if m = 0 then 0 else c (m - 1)
def C (toll : Int) (rows : List (List Int)) (c : Nat → Nat) : Nat → Int
  | 0 => 0
  | m + 1 => C toll rows c m + (at0 (row rows m) (c m) + turn toll (prev c m) (c m))
theorem C_mono (G : Good toll n rows) {c : Nat → Nat} (hc : ∀ p, p < rows.length → c p < n) {a : Nat} : ∀ d, a + d ≤ rows.length → C toll rows c a ≤ C toll rows c (a + d)
  | 0, _ => Int.le_refl _
  | d + 1, h => by
    have ih := C_mono G hc (a := a) d (by omega)
    have p1 := G.pos (a + d) (by omega) (c (a + d)) (hc _ (by omega))
    have t := turn_nn (toll := toll) (by have := G.t1; omega) (prev c (a + d)) (c (a + d))
    show _ ≤ C toll rows c (a + d) + (at0 (row rows (a + d)) (c (a + d)) + turn toll (prev c (a + d)) (c (a + d)))
    omega
theorem C_le (G : Good toll n rows) {c : Nat → Nat} (hc : ∀ p, p < rows.length → c p < n) {a b : Nat} (h : a ≤ b) (hb : b ≤ rows.length) : C toll rows c a ≤ C toll rows c b := by
  have z := C_mono G hc (a := a) (b - a) (by omega)
  rw [show a + (b - a) = b by omega] at z
  exact z
/-- from f on it either stays at one kind, or has paid a toll -/
theorem stays (G : Good toll n rows) {c : Nat → Nat} (hc : ∀ p, p < rows.length → c p < n) {f : Nat} : ∀ d, f + d ≤ rows.length →
    toll ≤ C toll rows c (f + d) - C toll rows c f ∨ ((d = 0 ∨ prev c (f + d) = prev c f) ∧ (0 < d → prev c f < n) ∧ C toll rows c (f + d) - C toll rows c f = col rows (prev c f) f (f + d))
  | 0, _ => .inr ⟨.inl rfl, fun h => absurd h (Nat.lt_irrefl 0), by rw [Nat.add_zero, col_self, Int.sub_self]⟩
  | d + 1, h => by
    have ih := stays G hc (f := f) d (by omega)
    have eC : C toll rows c (f + (d + 1)) = C toll rows c (f + d) + (at0 (row rows (f + d)) (c (f + d)) + turn toll (prev c (f + d)) (c (f + d))) := rfl
    have p1 := G.pos (f + d) (by omega) (c (f + d)) (hc _ (by omega))
    have t := turn_nn (toll := toll) (by have := G.t1; omega) (prev c (f + d)) (c (f + d))
    rcases ih with ih | ⟨i1, i2, i3⟩
    · left
      omega
    · have ep : prev c (f + d) = prev c f := by
        rcases i1 with z | z
        · rw [z, Nat.add_zero]
        · exact z
      by_cases hk : c (f + d) = prev c f
      · right
        refine ⟨.inr ?_, fun _ => by rw [← hk]; exact hc _ (by omega), ?_⟩
        · show prev c (f + d + 1) = _
          unfold prev
          rw [if_neg (by omega)]
          exact hk
        · have et : turn toll (prev c (f + d)) (c (f + d)) = 0 := by
            unfold turn
            rw [if_pos (by rw [ep, hk])]
          rw [eC, et, show f + (d + 1) = f + d + 1 by omega, col_succ rows _ (by omega), hk]
          omega
      · left
        have et : turn toll (prev c (f + d)) (c (f + d)) = toll := by
          unfold turn
          rw [if_neg (by rw [ep]; exact fun z => hk z.symm)]
        have m := C_le G hc (a := f) (b := f + d) (by omega) (by omega)
        rw [eC, et]
        omega
def biggest (a b : Int) : Int := if b > a then b else a
theorem biggest_ge (a b : Int) : a ≤ biggest a b ∧ b ≤ biggest a b := by
  unfold biggest
  split <;> omega
theorem biggest_le {a b c : Int} (h1 : a ≤ c) (h2 : b ≤ c) : biggest a b ≤ c := by
  unfold biggest
  split <;> assumption
/-- an ended phase costs any choice the toll, and its last row's least -/
theorem end_cost (G : Good toll n rows) {c : Nat → Nat} (hc : ∀ p, p < rows.length → c p < n) {f e : Nat} (hF : Fresh toll n rows f) (hfe : f ≤ e) (he : e < rows.length) (hcl : Calm toll n rows f e) (h : ended toll n rows e = true) :
    biggest toll (lmin (row rows e)) ≤ C toll rows c (e + 1) - C toll rows c f := by
  have eC : C toll rows c (e + 1) = C toll rows c e + (at0 (row rows e) (c e) + turn toll (prev c e) (c e)) := rfl
  have t := turn_nn (toll := toll) (by have := G.t1; omega) (prev c e) (c e)
  have m := C_le G hc hfe (Nat.le_of_lt he)
  refine biggest_le ?_ ?_
  · have st := stays G hc (f := f) (e + 1 - f) (by omega)
    rw [show f + (e + 1 - f) = e + 1 by omega] at st
    rcases st with z | ⟨_, z2, z3⟩
    · exact z
    · rw [z3]
      have hk := z2 (by omega)
      have sc := sums_col G hF (e - f) (by omega) (by rw [show f + (e - f) = e by omega]; exact hcl)
      rw [show f + (e - f) = e by omega] at sc
      rw [← grown_col G hfe he sc _ hk]
      exact end_all h _ hk
  · have : lmin (row rows e) ≤ at0 (row rows e) (c e) := lmin_le (by
      unfold at0
      have hl : c e < (row rows e).length := by
        rw [G.len e he]
        exact hc e he
      rw [List.getD_eq_getElem?_getD, List.getElem?_eq_getElem hl]
      exact List.getElem_mem hl)
    rw [eC]
    omega
/-- what the phases that end ahead of row m cost any choice at least -/
def Gs (toll : Int) (n : Nat) (rows : List (List Int)) (m : Nat) : Int := (((List.range m).filter (ended toll n rows)).map fun e => biggest toll (lmin (row rows e))).sum
theorem Gs_succ (m : Nat) : Gs toll n rows (m + 1) = Gs toll n rows m + (if ended toll n rows m = true then biggest toll (lmin (row rows m)) else 0) := by
  unfold Gs
  rw [List.range_succ, List.filter_append, List.map_append, List.sum_append]
  cases h : ended toll n rows m <;> simp [h]
/-- where the phase began that is open ahead of row m -/
structure Begun (toll : Int) (n : Nat) (rows : List (List Int)) (f m : Nat) : Prop where
  le : f ≤ m
  fr : Fresh toll n rows f
  ca : Calm toll n rows f m
theorem phases (G : Good toll n rows) : ∀ m, m ≤ rows.length → ∃ f, Begun toll n rows f m ∧
    (∀ c : Nat → Nat, (∀ p, p < rows.length → c p < n) → Gs toll n rows m ≤ C toll rows c f) ∧ (S toll n rows f).paid ≤ (2 * (n : Int) + 1) * Gs toll n rows m
  | 0, _ => ⟨0, ⟨Nat.le_refl _, fresh_0, fun p _ h => absurd h (Nat.not_lt_zero p)⟩, fun _ _ => Int.le_refl _, by
      show (0 : Int) ≤ (2 * (n : Int) + 1) * 0
      rw [Int.mul_zero]
      exact Int.le_refl _⟩
  | m + 1, hm => by
    obtain ⟨f, B, h1, h2⟩ := phases G m (Nat.le_of_succ_le hm)
    rw [Gs_succ]
    cases h : ended toll n rows m with
    | false =>
      refine ⟨f, ⟨Nat.le_succ_of_le B.le, B.fr, fun p p1 p2 => ?_⟩, fun c hc => ?_, ?_⟩
      · by_cases e : p = m
        · rw [e]
          exact h
        · exact B.ca p p1 (by omega)
      · rw [if_neg Bool.false_ne_true, Int.add_zero]
        exact h1 c hc
      · rw [if_neg Bool.false_ne_true, Int.add_zero]
        exact h2
    | true =>
      refine ⟨m + 1, ⟨Nat.le_refl _, fresh_end h, fun p p1 p2 => by omega⟩, fun c hc => ?_, ?_⟩
      · rw [if_pos rfl]
        have a := end_cost G hc B.fr B.le hm B.ca h
        have b := h1 c hc
        omega
      · rw [if_pos rfl]
        have a := end_paid G B.fr B.le hm B.ca h
        have g := biggest_ge toll (lmin (row rows m))
        have t1 := G.t1
        have e1 : (2 * (n : Int) + 1) * (Gs toll n rows m + biggest toll (lmin (row rows m))) = (2 * (n : Int) + 1) * Gs toll n rows m + (2 * ((n : Int) * biggest toll (lmin (row rows m))) + biggest toll (lmin (row rows m))) := by
          rw [Int.mul_add, Int.add_mul (2 * (n : Int)) 1 (biggest toll (lmin (row rows m))), Int.one_mul, Int.mul_assoc 2 (n : Int) (biggest toll (lmin (row rows m)))]
        have e2 : (n : Int) * (2 * toll - 1) = 2 * ((n : Int) * toll) - n := by
          rw [Int.mul_sub, Int.mul_one, ← Int.mul_assoc, Int.mul_comm (n : Int) 2, Int.mul_assoc]
        have e3 : (n : Int) * toll ≤ (n : Int) * biggest toll (lmin (row rows m)) := Int.mul_le_mul_of_nonneg_left g.1 (by omega)
        rw [e1]
        rw [e2] at a
        omega
/-- phases_cost is no more than any choice costs -/
theorem lower (G : Good toll n rows) {c : Nat → Nat} (hc : ∀ p, p < rows.length → c p < n) : Gs toll n rows rows.length ≤ C toll rows c rows.length := by
  obtain ⟨f, B, h1, _⟩ := phases G rows.length (Nat.le_refl _)
  have a := h1 c hc
  have b := C_le G hc B.le (Nat.le_refl _)
  omega
/-- what is paid under way is no more than this -/
theorem upper (G : Good toll n rows) : (S toll n rows rows.length).paid ≤ (2 * (n : Int) + 1) * Gs toll n rows rows.length + 2 * ((n : Int) * toll) := by
  obtain ⟨f, B, _, h2⟩ := phases G rows.length (Nat.le_refl _)
  have a := open_paid G B.fr B.le (Nat.le_refl _) B.ca
  have e2 : (n : Int) * (2 * toll - 1) = 2 * ((n : Int) * toll) - n := by
    rw [Int.mul_sub, Int.mul_one, ← Int.mul_assoc, Int.mul_comm (n : Int) 2, Int.mul_assoc]
  have := G.t1
  omega
end
end UM
/-! VCost: costs, tolls, by value. -/
namespace VC
open PySem PySem.Spec PyProof.Rows L2 Ts Dv K87
local macro_rules | `(tactic| walk_at "vrh") => `(tactic| simp (config := {decide := true}) only [Bool.or_eq_true, Option.getD_some, Option.getD_none, decide_eq_true_eq, Ts.isaD, Ts.kindD, Ts.isaK, Bool.not_true, Bool.not_false, Bool.or_self, Bool.and_self, List.map_cons, List.map_nil, List.length_cons, List.length_nil, List.replicate, List.cons_append, List.nil_append, Nat.reduceSub, Nat.reduceAdd, List.set_cons_zero, List.set_cons_succ, ↓reduceIte, Bool.false_eq_true, reduceCtorEq, true_and, and_true, List.append_nil, Option.isSome_some, Nat.reduceLeDiff, Bool.and_true, Bool.true_and, Bool.or_true, Bool.true_or, decide_true, Nat.zero_add, Int.reduceNeg, Int.reducePow, Int.reduceLE, Int.reduceLT, Int.reduceAdd, Int.reduceSub, Int.reduceMul, Int.toNat_natCast, Option.map_some, Option.bind_some, beq_self_eq_true, Dv.bO_some, Dv.bO_none, Dv.ite_dec, Dv.gS_0, Dv.gS_n, Dv.gS_s, Dv.v_slot, Dv.v_val, Dv.v_cell, Dv.set_mk, Dv.cell_mk, Dv.pa_slot, Dv.pa_cell, Dv.refOf, Dv.boOf, Dv.intOf, Dv.tupOf, Dv.lstOf, Dv.dicOf_d, Dv.insOf_same, Dv.e_fl, Dv.e_kK, Dv.plc, Dv.e_var, Dv.e_c, Dv.e_cell, Dv.e_kCell, Dv.e_L, Dv.e_kL, Dv.e_Ls, Dv.e_Lc, Dv.e_kLc1, Dv.e_kLc2, Dv.e_Rd, Dv.e_kRd, Dv.e_Op, Dv.e_kOp1, Dv.e_kOp2, Dv.e_OpL, Dv.e_kOpL1, Dv.e_kOpL2, Dv.e_kOpL3, Dv.e_Tst, Dv.e_kTst, Dv.e_kTst2, Dv.e_Un, Dv.e_kUn, Dv.e_Ch, Dv.e_kCh1, Dv.e_kCh2, Dv.e_kCh3, Dv.e_kCh4, Dv.e_kCh5, Dv.e_And, Dv.e_kAnd, Dv.e_Or, Dv.e_kOr, Dv.e_Not, Dv.e_kNot, Dv.e_AndV, Dv.e_kAndV, Dv.e_kAndV2, Dv.e_OrV, Dv.e_kOrV, Dv.e_kOrV2, Dv.e_NotV, Dv.e_kNotV, Dv.e_kNotV2, Dv.e_IfV, Dv.e_kIfV, Dv.e_nil, Dv.e_Cons, Dv.e_kCons1, Dv.e_kCons2, Dv.e_Tup, Dv.e_kTup, Dv.e_Lst, Dv.e_kLst, Dv.e_Ca, Dv.e_kCa, Dv.e_NewL, Dv.e_kNewL, Dv.e_kNewL2, Dv.e_Seq, Dv.e_kSeqn, Dv.e_kSeqrt, Dv.e_kSeqbk, Dv.e_kSeqct, Dv.e_kSeqer, Dv.e_Next, Dv.e_Brk, Dv.e_Cnt, Dv.e_Drop, Dv.e_kDrop, Dv.e_Ret, Dv.e_RetN, Dv.e_RetO, Dv.e_kRetO, Dv.e_RetC, Dv.e_kRetC, Dv.e_IfS, Dv.e_kIfS, Dv.e_gNm, Dv.e_gNms0, Dv.e_gNms1, Dv.e_gTpN, Dv.e_gTpL, Dv.e_kTpN, Dv.e_Asg, Dv.e_kAsg, Dv.e_Set, Dv.e_kSet, Dv.e_Take, Dv.e_kTake, Dv.e_kTake2, Dv.e_kTake3, Dv.e_For, Dv.e_kWh, Dv.e_Call, Dv.e_kCall, Dv.e_NilR, Dv.e_ConsR, Dv.e_kConsR1, Dv.e_kConsR2, Dv.e_kBack, Dv.e_putP0, Dv.e_putP1, Dv.e_putP2, Dv.e_delP0, Dv.e_delP1, Dv.e_delP2, Dv.e_Yes, Dv.e_ItF, Dv.e_kItF, Dv.e_ItT, Dv.e_kItT, Dv.e_ItL, Dv.e_kItL, Dv.wipe_0, Dv.wipe_1, Dv.e_kME, Dv.e_kMB, Dv.e_kMT, Dv.e_LcS, Dv.e_Rg1, Dv.e_kRg1, Dv.e_Rg2, Dv.e_kRg2, Dv.e_EnL, Dv.e_kEnL, Dv.e_EnT, Dv.e_kEnT, Dv.e_kEn2, Dv.e_Zp, Dv.e_kZp, Dv.e_kZp2, Dv.sq_t, Dv.sq_l, Dv.e_No, Dv.e_Pt, Dv.e_kPt, Dv.e_kPt2, Dv.e_SlT, Dv.e_kSlT1, Dv.e_kSlT2, Dv.e_kSlT3, Dv.e_kSlT4, Dv.e_SlL, Dv.e_kSlL1, Dv.e_kSlL2, Dv.e_kSlL3, Dv.e_kSlL4, Dv.e_Prs0, Dv.e_Prs1, Dv.e_kPr1, Dv.e_kPr2, Dv.e_kPr3, Dv.e_Di, Dv.e_kDi, Dv.e_kDi2, Dv.e_ks0, Dv.e_ks1, Dv.e_ks2, Dv.e_NewD, Dv.e_Mu, Dv.e_kMu1, Dv.e_kMu2, Dv.e_kMu3, Dv.e_kMu4, Dv.e_kMu5, Dv.e_PD, Dv.e_kPD1, Dv.e_kPD2, Dv.e_kPD3, Dv.e_kPD4, Dv.e_kPD5, Dv.e_iS, Option.bind_some, Option.map_some, Dv.e_AI, Dv.e_kAI1, Dv.e_kAI2, Dv.e_kAI3, Dv.e_AL, Dv.e_kAL1, Dv.e_kAL2, Dv.e_kAL3, Dv.e_kAL4, Dv.e_Raise, Dv.e_Fld, Dv.e_kFld, Dv.e_kFld2, Dv.e_SF, Dv.e_kSF1, Dv.e_kSF2, Dv.e_kSF3, Dv.e_Me, Dv.e_kMe, Dv.e_kMe1, Dv.e_kMe2, Dv.e_Mk, Dv.e_kMk, Dv.e_kMk2, Dv.e_kMk3, Dv.e_vrt, Dv.e_vnx, Dv.e_ver, Dv.e_kOut, Dv.e_outs0, Dv.e_outs2, Dv.plain_int, Dv.plain_bool, Dv.plain_none, Dv.plain_str, Dv.flat_none, Dv.flat_bool, Dv.flat_int, Dv.flat_str, Dv.plain_l, Dv.plain_t, Dv.eq_ss, Dv.eq_ii, Dv.eq_si, Dv.eq_sn, Dv.eq_sb, Dv.eq_st, Dv.eq_sl, Dv.mem_nil, Dv.mem_cons, Dv.gIn_l, Dv.gIn_t, Dv.gNi_l, Dv.gNi_t, List.all_cons, List.all_nil, Bool.or_false, Bool.false_or, Dv.gDiv_int, Dv.gMod_int, Dv.gMul_int, Dv.ite_or, Dv.gI_int, Dv.divB, Dv.modB, Dv.mulB, Dv.gAdd_i, Dv.gSub_i, Dv.gLt_i, Dv.gLe_i, Dv.gGt_i, Dv.gGe_i, Dv.gNeg_i, Dv.gEqI_i, Dv.gNeI_i, Dv.gEqS_s, Dv.gNeS_s, Dv.gMax2_i, Dv.gMin2_i, Dv.gInt_b, Dv.gInt_i, Dv.len_l, Dv.len_t, Dv.len_f, Dv.not_dec, Dv.st0, Dv.isTy, Dv.strOk_of, Dv.flat_of, Dv.e_ListRg, Dv.e_kListRg, Dv.e_SortedSet, Dv.e_kSortedSet, Dv.gIsN_e, Dv.gNotN_e, Dv.isN_non, Dv.isN_bl, Dv.isN_int, Dv.isN_str, Dv.isN_l, Dv.isN_t, Dv.isN_d, Dv.isN_e, Dv.isN_r, Dv.isN_i, Dv.cat_l, Dv.cat_t, Dv.cnt_l, Dv.cntD_nil, Dv.cntD_cons, Dv.idx_l, Dv.ixD_nil, Dv.ixD_cons, Dv.eq_bb, Dv.ix_n, Dv.ixT_n, Dv.ix_i, Dv.ixT_i, Dv.ix_m1, Dv.ixT_m1, Dv.tup_l, Dv.tup_t, Dv.e_FA, Dv.e_kFA1, Dv.e_kFA1', Dv.e_kFA2, Dv.e_kFA3, Dv.e_kFA4, Dv.e_kFA5, Dv.cput_same, Dv.cput_cput, Dv.items_t, Dv.items_l, Dv.e_SI, Dv.e_kSI0, Dv.e_kSI1, Dv.e_kSI2, Dv.e_kSI3, Dv.e_kSI4, Dv.e_kSI5, Dv.fget_nil, Dv.fget_cons, Dv.fput_nil, Dv.fput_cons, Dv.all_b, Dv.all_m, Dv.sum_i, List.getElem?_cons_zero, List.getElem?_cons_succ, Int.ofNat_eq_natCast, Int.cast_ofNat_Int, Int.reduceToNat, Dv.e_Bm, Dv.e_kBm1, Dv.e_kBm1', Dv.e_kBm2, Dv.e_kBm3, Dv.isRd_l, Dv.isRd_s, Dv.e_Try, Dv.e_trnx, Dv.e_trrt, Dv.e_trbk, Dv.e_trct, Dv.e_trer, Dv.e_kTr, Dv.lkB_nil, Dv.lkB_cons, Dv.isEr_e, Dv.e_Lam, Dv.e_kLam, Dv.e_wipe0, Dv.e_wipe1, Dv.e_Act, Dv.e_kAct, Dv.e_kActE, Dv.e_lamS, Dv.e_kLs, Dv.e_kLsE, Dv.gKin_s, Dv.gKix_s, Dv.litD_t, Dv.litD_i, Dv.litD_n, Dv.isa_i, Dv.isa_s, Dv.isa_b, Dv.isa_n, Dv.isa_t, Dv.isa_l, Dv.isa_d, Dv.isa_dt, Dv.e_GO, Dv.e_GO1, Dv.e_GO2, Dv.e_GO3, Dv.e_GO4, Dv.e_GO5, Dv.kOf_str, Dv.kOf_int, Dv.lk_cons, Dv.lk_nil, Dv.e_Par, Dv.e_kPar, Dv.merge_nd, Dv.gDGet_d, Dv.gDIn_d, *])
local macro_rules | `(tactic| walk_at "vrd") => `(tactic| simp (config := {decide := true}) only [Bool.or_eq_true, Option.getD_some, Option.getD_none, decide_eq_true_eq, Ts.isaD, Ts.kindD, Ts.isaK, Bool.not_true, Bool.not_false, Bool.or_self, Bool.and_self, List.map_cons, List.map_nil, List.length_cons, List.length_nil, List.replicate, List.cons_append, List.nil_append, Nat.reduceSub, Nat.reduceAdd, List.set_cons_zero, List.set_cons_succ, ↓reduceIte, Bool.false_eq_true, reduceCtorEq, true_and, and_true, List.append_nil, Option.isSome_some, Nat.reduceLeDiff, Bool.and_true, Bool.true_and, Bool.or_true, Bool.true_or, decide_true, Nat.zero_add, Int.reduceNeg, Int.reducePow, Int.reduceLE, Int.reduceLT, Int.reduceAdd, Int.reduceSub, Int.reduceMul, Int.toNat_natCast, Option.map_some, Option.bind_some, beq_self_eq_true, Dv.bO_some, Dv.bO_none, Dv.ite_dec, Dv.gS_0, Dv.gS_n, Dv.gS_s, Dv.v_slot, Dv.v_val, Dv.v_cell, Dv.set_mk, Dv.cell_mk, Dv.pa_slot, Dv.pa_cell, Dv.refOf, Dv.boOf, Dv.intOf, Dv.tupOf, Dv.lstOf, Dv.dicOf_d, Dv.insOf_same, Dv.e_fl, Dv.e_kK, Dv.plc, Dv.e_var, Dv.e_c, Dv.e_cell, Dv.e_kCell, Dv.e_L, Dv.e_kL, Dv.e_Ls, Dv.e_Lc, Dv.e_kLc1, Dv.e_kLc2, Dv.e_Rd, Dv.e_kRd, Dv.e_Op, Dv.e_kOp1, Dv.e_kOp2, Dv.e_OpL, Dv.e_kOpL1, Dv.e_kOpL2, Dv.e_kOpL3, Dv.e_Tst, Dv.e_kTst, Dv.e_kTst2, Dv.e_Un, Dv.e_kUn, Dv.e_Ch, Dv.e_kCh1, Dv.e_kCh2, Dv.e_kCh3, Dv.e_kCh4, Dv.e_kCh5, Dv.e_And, Dv.e_kAnd, Dv.e_Or, Dv.e_kOr, Dv.e_Not, Dv.e_kNot, Dv.e_AndV, Dv.e_kAndV, Dv.e_kAndV2, Dv.e_OrV, Dv.e_kOrV, Dv.e_kOrV2, Dv.e_NotV, Dv.e_kNotV, Dv.e_kNotV2, Dv.e_IfV, Dv.e_kIfV, Dv.e_nil, Dv.e_Cons, Dv.e_kCons1, Dv.e_kCons2, Dv.e_Tup, Dv.e_kTup, Dv.e_Lst, Dv.e_kLst, Dv.e_Ca, Dv.e_kCa, Dv.e_NewL, Dv.e_kNewL, Dv.e_kNewL2, Dv.e_Seq, Dv.e_kSeqn, Dv.e_kSeqrt, Dv.e_kSeqbk, Dv.e_kSeqct, Dv.e_kSeqer, Dv.e_Next, Dv.e_Brk, Dv.e_Cnt, Dv.e_Drop, Dv.e_kDrop, Dv.e_Ret, Dv.e_RetN, Dv.e_RetO, Dv.e_kRetO, Dv.e_RetC, Dv.e_kRetC, Dv.e_IfS, Dv.e_kIfS, Dv.e_gNm, Dv.e_gNms0, Dv.e_gNms1, Dv.e_gTpN, Dv.e_gTpL, Dv.e_kTpN, Dv.e_Asg, Dv.e_kAsg, Dv.e_Set, Dv.e_kSet, Dv.e_Take, Dv.e_kTake, Dv.e_kTake2, Dv.e_kTake3, Dv.e_For, Dv.e_kWh, Dv.e_Call, Dv.e_kCall, Dv.e_NilR, Dv.e_ConsR, Dv.e_kConsR1, Dv.e_kConsR2, Dv.e_kBack, Dv.e_putP0, Dv.e_putP1, Dv.e_putP2, Dv.e_delP0, Dv.e_delP1, Dv.e_delP2, Dv.e_Yes, Dv.e_ItF, Dv.e_kItF, Dv.e_ItT, Dv.e_kItT, Dv.e_ItL, Dv.e_kItL, Dv.wipe_0, Dv.wipe_1, Dv.e_kME, Dv.e_kMB, Dv.e_kMT, Dv.e_LcS, Dv.e_Rg1, Dv.e_kRg1, Dv.e_Rg2, Dv.e_kRg2, Dv.e_EnL, Dv.e_kEnL, Dv.e_EnT, Dv.e_kEnT, Dv.e_kEn2, Dv.e_Zp, Dv.e_kZp, Dv.e_kZp2, Dv.sq_t, Dv.sq_l, Dv.e_No, Dv.e_Pt, Dv.e_kPt, Dv.e_kPt2, Dv.e_SlT, Dv.e_kSlT1, Dv.e_kSlT2, Dv.e_kSlT3, Dv.e_kSlT4, Dv.e_SlL, Dv.e_kSlL1, Dv.e_kSlL2, Dv.e_kSlL3, Dv.e_kSlL4, Dv.e_Prs0, Dv.e_Prs1, Dv.e_kPr1, Dv.e_kPr2, Dv.e_kPr3, Dv.e_Di, Dv.e_kDi, Dv.e_kDi2, Dv.e_ks0, Dv.e_ks1, Dv.e_ks2, Dv.e_NewD, Dv.e_Mu, Dv.e_kMu1, Dv.e_kMu2, Dv.e_kMu3, Dv.e_kMu4, Dv.e_kMu5, Dv.e_PD, Dv.e_kPD1, Dv.e_kPD2, Dv.e_kPD3, Dv.e_kPD4, Dv.e_kPD5, Dv.e_iS, Option.bind_some, Option.map_some, Dv.e_AI, Dv.e_kAI1, Dv.e_kAI2, Dv.e_kAI3, Dv.e_AL, Dv.e_kAL1, Dv.e_kAL2, Dv.e_kAL3, Dv.e_kAL4, Dv.e_Raise, Dv.e_Fld, Dv.e_kFld, Dv.e_kFld2, Dv.e_SF, Dv.e_kSF1, Dv.e_kSF2, Dv.e_kSF3, Dv.e_Me, Dv.e_kMe, Dv.e_kMe1, Dv.e_kMe2, Dv.e_Mk, Dv.e_kMk, Dv.e_kMk2, Dv.e_kMk3, Dv.e_vrt, Dv.e_vnx, Dv.e_ver, Dv.e_kOut, Dv.e_outs0, Dv.e_outs2, Dv.plain_int, Dv.plain_bool, Dv.plain_none, Dv.plain_str, Dv.flat_none, Dv.flat_bool, Dv.flat_int, Dv.flat_str, Dv.plain_l, Dv.plain_t, Dv.eq_ss, Dv.eq_ii, Dv.eq_si, Dv.eq_sn, Dv.eq_sb, Dv.eq_st, Dv.eq_sl, Dv.mem_nil, Dv.mem_cons, Dv.gIn_l, Dv.gIn_t, Dv.gNi_l, Dv.gNi_t, List.all_cons, List.all_nil, Bool.or_false, Bool.false_or, Dv.gDiv_int, Dv.gMod_int, Dv.gMul_int, Dv.ite_or, Dv.gI_int, Dv.divB, Dv.modB, Dv.mulB, Dv.gAdd_i, Dv.gSub_i, Dv.gLt_i, Dv.gLe_i, Dv.gGt_i, Dv.gGe_i, Dv.gNeg_i, Dv.gEqI_i, Dv.gNeI_i, Dv.gEqS_s, Dv.gNeS_s, Dv.gMax2_i, Dv.gMin2_i, Dv.gInt_b, Dv.gInt_i, Dv.len_l, Dv.len_t, Dv.len_f, Dv.not_dec, Dv.st0, Dv.isTy, Dv.strOk_of, Dv.flat_of, Dv.e_ListRg, Dv.e_kListRg, Dv.e_SortedSet, Dv.e_kSortedSet, Dv.gIsN_e, Dv.gNotN_e, Dv.isN_non, Dv.isN_bl, Dv.isN_int, Dv.isN_str, Dv.isN_l, Dv.isN_t, Dv.isN_d, Dv.isN_e, Dv.isN_r, Dv.isN_i, Dv.cat_l, Dv.cat_t, Dv.cnt_l, Dv.cntD_nil, Dv.cntD_cons, Dv.idx_l, Dv.ixD_nil, Dv.ixD_cons, Dv.eq_bb, Dv.ix_n, Dv.ixT_n, Dv.ix_i, Dv.ixT_i, Dv.ix_m1, Dv.ixT_m1, Dv.tup_l, Dv.tup_t, Dv.e_FA, Dv.e_kFA1, Dv.e_kFA1', Dv.e_kFA2, Dv.e_kFA3, Dv.e_kFA4, Dv.e_kFA5, Dv.cput_same, Dv.cput_cput, Dv.items_t, Dv.items_l, Dv.e_SI, Dv.e_kSI0, Dv.e_kSI1, Dv.e_kSI2, Dv.e_kSI3, Dv.e_kSI4, Dv.e_kSI5, Dv.fget_nil, Dv.fget_cons, Dv.fput_nil, Dv.fput_cons, Dv.all_b, Dv.all_m, Dv.sum_i, List.getElem?_cons_zero, List.getElem?_cons_succ, Int.ofNat_eq_natCast, Int.cast_ofNat_Int, Int.reduceToNat, Dv.e_Bm, Dv.e_kBm1, Dv.e_kBm1', Dv.e_kBm2, Dv.e_kBm3, Dv.isRd_l, Dv.isRd_s, Dv.e_Try, Dv.e_trnx, Dv.e_trrt, Dv.e_trbk, Dv.e_trct, Dv.e_trer, Dv.e_kTr, Dv.lkB_nil, Dv.lkB_cons, Dv.isEr_e, Dv.e_Lam, Dv.e_kLam, Dv.e_wipe0, Dv.e_wipe1, Dv.e_Act, Dv.e_kAct, Dv.e_kActE, Dv.e_lamS, Dv.e_kLs, Dv.e_kLsE, Dv.gKin_s, Dv.gKix_s, Dv.litD_t, Dv.litD_i, Dv.litD_n, Dv.isa_i, Dv.isa_s, Dv.isa_b, Dv.isa_n, Dv.isa_t, Dv.isa_l, Dv.isa_d, Dv.isa_dt, Dv.e_GO, Dv.e_GO1, Dv.e_GO2, Dv.e_GO3, Dv.e_GO4, Dv.e_GO5, Dv.kOf_str, Dv.kOf_int, Dv.lk_cons, Dv.lk_nil, Dv.e_Par, Dv.e_kPar, Dv.merge_nd, Dv.gDGet_d, Dv.gDIn_d])
local macro_rules | `(tactic| walk_at "call") => `(tactic| refine Dv.r_call _ _ rfl rfl (by decide) rfl rfl ?_)

def isInt : Dt → Bool
  | .int _ => true
  | _ => false
def isBt (x : Dt) (lo hi : Int) : Bool := match x with
  | .int i => decide (lo ≤ i) && decide (i ≤ hi)
  | _ => false
def rowB (x : Dt) (m : Int) : Bool := match x with
  | .tuple ds => decide ((ds.length : Int) = m) && ds.all (fun d => isBt d 1 1000000)
  | _ => false
def costs1 (r : Dt) (ds : List Dt) : Bool := match r with
  | .tuple es => decide (1 ≤ es.length ∧ es.length ≤ 5) && ds.all (fun d => rowB d es.length)
  | _ => false
def costs0 : List Dt → Bool
  | [] => true
  | r :: rs => costs1 r (r :: rs)
def costsB : Dt → Bool
  | .tuple ds => decide (ds.length ≤ 120) && costs0 ds
  | _ => false
def tollB (x : Dt) : Bool := isBt x 1 1000
def S_p1 (f : Dt → Bool) : Fs := pS fun ds P _ => ∃ x, ds = [x] ∧ Sd x ∧ P (.bool (f x)) []
def S_bt : Fs := pS fun ds P _ => ∃ x lo hi, ds = [x, .int lo, .int hi] ∧ Sd x ∧ P (.bool (isBt x lo hi)) []
def S_row : Fs := pS fun ds P _ => ∃ x m, ds = [x, .int m] ∧ Sd x ∧ P (.bool (rowB x m)) []
theorem bt_range {i lo hi : Int} : isBt (.int i) lo hi = decide (lo ≤ i ∧ i ≤ hi) := by
  show (decide _ && decide _) = _
  by_cases h1 : lo ≤ i <;> by_cases h2 : i ≤ hi <;> simp [h1, h2]
section
variable {P : Program} {w : World} {K : PySem.W.Frag} {mg : Str → Option Value} {base : Heap} {TL : Tbs}
theorem sc_is_number : FnScope ["thing"] ["thing"] (defScope sis_number) := ⟨rfl, rfl, rfl, by decide +kernel, rfl, by decide +kernel, by decide +kernel⟩
theorem v_is_number (T : Tw fa fn ts xb w K mg) : GFn P w K mg base 1 (He.fAd K dis_number.at_) ["thing"] (spV K TL 1 [] (S_p1 isInt)) := by
  obtain ⟨fd, F⟩ := T.says.def_ 0 (d := dis_number) rfl
  refine okV (fun i => ([] : List Nat).contains i) [] _ F sc_is_number (fun _ _ _ _ _ _ us hl => match us, hl with | [_], _ => rfl) rfl rfl (by decide) ⟨_, fun cdv hcdv A outer s H E hr => have hu := hu_of hr.rm; have hu65 := hu65_of hr.rm; (vss_one (vs_ret (vx_and (vx_isa (T := "int") (by decide +kernel) (T.b 72) (T.b 71) (by decide +kernel) (vb_of (vx_var (pv 0)))) (vx_one (vx_not (vx_isa (T := "bool") (by decide +kernel) (T.b 72) (T.b 69) (by decide +kernel) (vb_of (vx_var (pv 0))))))))), fun ds cs Q Er hl h => ?_⟩
  clear hl
  obtain ⟨x, rfl, hp, k⟩ := h
  have ht := hp.ty
  cases x <;> first | (cases ht; done) | skip
  all_goals walk_at "vrd"
  all_goals exact k
theorem sc_is_between : FnScope ["thing", "low", "high"] ["thing", "low", "high"] (defScope sis_between) := ⟨rfl, rfl, rfl, by decide +kernel, rfl, by decide +kernel, by decide +kernel⟩
theorem v_is_between (T : Tw fa fn ts xb w K mg) : GFn P w K mg base 2 (He.fAd K dis_between.at_) ["thing", "low", "high"] (spV K TL 3 [] S_bt) := by
  obtain ⟨fd, F⟩ := T.says.def_ 1 (d := dis_between) rfl
  refine okV (fun i => ([] : List Nat).contains i) [] _ F sc_is_between (fun _ _ _ _ _ _ us hl => match us, hl with | [_, _, _], _ => rfl) rfl rfl (by decide) ⟨_, fun cdv hcdv A outer s H E hr => have hu := hu_of hr.rm; have hu65 := hu65_of hr.rm; (vss_one (vs_ret (vx_and (vx_call (v_is_number T) (hr.mono (by decide)) (T.g 0) (fun σ => passAt (takes_of rfl rfl rfl rfl) σ) (vr_cons (vl_val (vx_var (pv 0))) vr_nil)) (vx_one (vx_chain oLe oLe (vx_var (pv 1)) (vx_var (pv 0)) (vx_var (pv 2))))))), fun ds cs Q Er hl h => ?_⟩
  clear hl
  obtain ⟨x, lo, hi, rfl, hp, k⟩ := h
  walk_at "vrd"
  walk_at "call"
  refine ⟨x, rfl, hp, ?_⟩
  have ht := hp.ty
  cases x <;> first | (cases ht; done) | skip
  all_goals simp only [isInt]
  all_goals walk_at "vrd"
  all_goals try exact k
  split
  · rename_i c
    exact dt_eq k (by rw [bt_range]; simp [c])
  · rename_i c
    exact dt_eq k (by rw [bt_range]; simp [c])
theorem sc_is_whole_in : FnScope ["thing", "low", "high"] ["thing", "low", "high"] (defScope sis_whole_in) := ⟨rfl, rfl, rfl, by decide +kernel, rfl, by decide +kernel, by decide +kernel⟩
theorem v_is_whole_in (T : Tw fa fn ts xb w K mg) : GFn P w K mg base 1 (He.fAd K dis_whole_in.at_) ["thing", "low", "high"] (spV K TL 3 [] S_bt) := by
  obtain ⟨fd, F⟩ := T.says.def_ 5 (d := dis_whole_in) rfl
  refine okV (fun i => ([] : List Nat).contains i) [] _ F sc_is_whole_in (fun _ _ _ _ _ _ us hl => match us, hl with | [_, _, _], _ => rfl) rfl rfl (by decide) ⟨_, fun cdv hcdv A outer s H E hr => have hu := hu_of hr.rm; have hu65 := hu65_of hr.rm; (vss_one (vs_ret (vx_and (vx_isa (T := "int") (by decide +kernel) (T.b 72) (T.b 71) (by decide +kernel) (vb_of (vx_var (pv 0)))) (vx_and (vx_not (vx_isa (T := "bool") (by decide +kernel) (T.b 72) (T.b 69) (by decide +kernel) (vb_of (vx_var (pv 0))))) (vx_one (vx_chain oLe oLe (vx_var (pv 1)) (vx_var (pv 0)) (vx_var (pv 2)))))))), fun ds cs Q Er hl h => ?_⟩
  clear hl
  obtain ⟨x, lo, hi, rfl, hp, k⟩ := h
  have ht := hp.ty
  cases x <;> first | (cases ht; done) | skip
  all_goals walk_at "vrd"
  all_goals try exact k
  split
  · rename_i c
    exact dt_eq k (by rw [bt_range]; simp [c])
  · rename_i c
    exact dt_eq k (by rw [bt_range]; simp [c])
theorem sc_is_toll : FnScope ["thing"] ["thing"] (defScope sis_toll) := ⟨rfl, rfl, rfl, by decide +kernel, rfl, by decide +kernel, by decide +kernel⟩
theorem v_is_toll (T : Tw fa fn ts xb w K mg) : GFn P w K mg base 3 (He.fAd K dis_toll.at_) ["thing"] (spV K TL 1 [] (S_p1 tollB)) := by
  obtain ⟨fd, F⟩ := T.says.def_ 4 (d := dis_toll) rfl
  refine okV (fun i => ([] : List Nat).contains i) [] _ F sc_is_toll (fun _ _ _ _ _ _ us hl => match us, hl with | [_], _ => rfl) rfl rfl (by decide) ⟨_, fun cdv hcdv A outer s H E hr => have hu := hu_of hr.rm; have hu65 := hu65_of hr.rm; (vss_one (vs_ret (vx_call (v_is_between T) (hr.mono (by decide)) (T.g 1) (fun σ => passAt (takes_of rfl rfl rfl rfl) σ) (vr_cons (vl_val (vx_var (pv 0))) (vr_cons (vl_val (vx_int pe_int)) (vr_cons (vl_val (vx_int (pgi (T.i 40)))) vr_nil)))))), fun ds cs Q Er hl h => ?_⟩
  clear hl
  obtain ⟨x, rfl, hp, k⟩ := h
  walk_at "vrd"
  walk_at "call"
  refine ⟨x, _, _, rfl, hp, ?_⟩
  walk_at "vrd"
  exact k
theorem sc_is_costs_row : FnScope ["thing", "many", "one"] ["thing", "many"] (defScope sis_costs_row) := ⟨rfl, rfl, rfl, by decide +kernel, rfl, by decide +kernel, by decide +kernel⟩
theorem v_is_costs_row (T : Tw fa fn ts xb w K mg) : GFn P w K mg base 3 (He.fAd K dis_costs_row.at_) ["thing", "many"] (spV K TL 2 [] S_row) := by
  obtain ⟨fd, F⟩ := T.says.def_ 2 (d := dis_costs_row) rfl
  refine okV (fun i => ([] : List Nat).contains i) [] _ F sc_is_costs_row (fun _ _ _ _ _ _ us hl => match us, hl with | [_, _], _ => rfl) rfl rfl (by decide) ⟨_, fun cdv hcdv A outer s H E hr => have hu := hu_of hr.rm; have hu65 := hu65_of hr.rm; (vss_cons (vs_if (vt_w (vw_or (vt_not (vt_val (vx_isa (T := "tuple") (by decide +kernel) (T.b 72) (T.b 83) (by decide +kernel) (vb_of (vx_var (pv 0)))))) (vw_or1 (vt_cmp oNeI (vx_b1 cLenV (vb_of (vx_var (pv 0))) (fun h1 h2 => pe_callB h1 (by rfl) (T.b 73) (by decide +kernel) h2)) (vb_of (vx_var (pv 1))) (nomark _))))) (vss_one (vs_ret (vx_bl pe_bl))) vss_nil)
      (vss_one (vs_ret (vx_b1 (cAllV rfl) (vb_of (vx_of (vn_lc (vs := [2]) (g := gName 2) (vi_tup (vx_var (pv 0)) (fun h => piT K h)) (dgw_name (by decide) rfl rfl) rfl (fun {wi} hi => pe_lc (own := [("one", 2)]) (g := gName 2) rfl sc_is_costs_row.nd hi (blkOk_by (N := ["thing", "many", "one"]) (sc := defScope sis_costs_row) (by decide +kernel)) (fun _ _ _ _ _ => pg_name (i := 2) sc_is_costs_row.nd rfl (Or.inl rfl)) (fun _ _ _ _ _ => vts_nil) (fun _ _ _ _ _ => VX.can (vx_call (v_is_between T) (hr.mono (by decide)) (T.g 1) pn (vr_cons (vl_val (vx_var (pv 2))) (vr_cons (vl_val (vx_int pe_int)) (vr_cons (vl_val (vx_int (pgi (T.i 39)))) vr_nil))))))))) (fun h1 h2 => pe_callB h1 (by rfl) (T.b 68) (by decide +kernel) h2))))), fun ds cs Q Er hl h => ?_⟩
  clear hl
  obtain ⟨x, m, rfl, hp, k⟩ := h
  have ht := hp.ty
  cases x <;> first | (cases ht; done) | skip
  all_goals walk_at "vrd"
  all_goals try exact k
  rename_i ds
  obtain ⟨hlen, hps⟩ := hp.tup_in
  split
  · rename_i c
    refine r_mapT (fun d => .bool (isBt d 1 1000000)) rfl (by omega) (fun d hd R N hR => ?_) ?_
    · walk_at "vrd"
      walk_at "call"
      refine ⟨d, _, _, rfl, hps d hd, ?_⟩
      walk_at "vrd"
      exact hR
    · walk_at "vrd"
      refine dt_eq k ?_
      show _ = Dt.bool (decide _ && _)
      rw [decide_eq_true c]
      rfl
  · rename_i c
    refine dt_eq k ?_
    show _ = Dt.bool (decide _ && _)
    rw [decide_eq_false c]
    rfl
theorem sc_is_costs : FnScope ["thing", "row"] ["thing"] (defScope sis_costs) := ⟨rfl, rfl, rfl, by decide +kernel, rfl, by decide +kernel, by decide +kernel⟩
theorem v_is_costs (T : Tw fa fn ts xb w K mg) : GFn P w K mg base 4 (He.fAd K dis_costs.at_) ["thing"] (spV K TL 1 [] (S_p1 costsB)) := by
  obtain ⟨fd, F⟩ := T.says.def_ 3 (d := dis_costs) rfl
  refine okV (fun i => ([] : List Nat).contains i) [] _ F sc_is_costs (fun _ _ _ _ _ _ us hl => match us, hl with | [_], _ => rfl) rfl rfl (by decide) ⟨_, fun cdv hcdv A outer s H E hr => have hu := hu_of hr.rm; have hu65 := hu65_of hr.rm; (vss_cons (vs_if (vt_w (vw_or (vt_not (vt_val (vx_isa (T := "tuple") (by decide +kernel) (T.b 72) (T.b 83) (by decide +kernel) (vb_of (vx_var (pv 0)))))) (vw_or1 (vt_cmp oGt (vx_b1 cLenV (vb_of (vx_var (pv 0))) (fun h1 h2 => pe_callB h1 (by rfl) (T.b 73) (by decide +kernel) h2)) (vb_of (vx_int (pgi (T.i 37)))) (nomark _))))) (vss_one (vs_ret (vx_bl pe_bl))) vss_nil)
      (vss_cons (vs_if (vt_cmp (oEq hr.rm.units) (vx_var (pv 0)) (vb_of (vx_tup va_nil)) (nomark _)) (vss_one (vs_ret (vx_bl pe_bl))) vss_nil)
      (vss_cons (vs_if (vt_w (vw_or (vt_not (vt_val (vx_isa (T := "tuple") (by decide +kernel) (T.b 72) (T.b 83) (by decide +kernel) (vb_of (vx_ix iSeq (vx_var (pv 0)) (vx_int pe_int)))))) (vw_or1 (vt_not (vt_chain oLe oLe (vx_int pe_int) (vx_b1 cLenV (vb_of (vx_ix iSeq (vx_var (pv 0)) (vx_int pe_int))) (fun h1 h2 => pe_callB h1 (by rfl) (T.b 73) (by decide +kernel) h2)) (vx_int (pgi (T.i 38)))))))) (vss_one (vs_ret (vx_bl pe_bl))) vss_nil)
      (vss_one (vs_ret (vx_b1 (cAllV rfl) (vb_of (vx_of (vn_lc (vs := [1]) (g := gName 1) (vi_tup (vx_var (pv 0)) (fun h => piT K h)) (dgw_name (by decide) rfl rfl) rfl (fun {wi} hi => pe_lc (own := [("row", 1)]) (g := gName 1) rfl sc_is_costs.nd hi (blkOk_by (N := ["thing", "row"]) (sc := defScope sis_costs) (by decide +kernel)) (fun _ _ _ _ _ => pg_name (i := 1) sc_is_costs.nd rfl (Or.inl rfl)) (fun _ _ _ _ _ => vts_nil) (fun _ _ _ _ _ => VX.can (vx_call (v_is_costs_row T) (hr.mono (by decide)) (T.g 2) pn (vr_cons (vl_val (vx_var (pv 1))) (vr_cons (vl_val (vx_b1 cLenV (vb_of (vx_ix iSeq (vx_var (pv 0)) (vx_int pe_int))) (fun h1 h2 => pe_callB h1 (by rfl) (T.b 73) (by decide +kernel) h2))) vr_nil)))))))) (fun h1 h2 => pe_callB h1 (by rfl) (T.b 68) (by decide +kernel) h2))))))), fun ds cs Q Er hl h => ?_⟩
  clear hl
  obtain ⟨x, rfl, hp, k⟩ := h
  have ht := hp.ty
  cases x <;> first | (cases ht; done) | skip
  all_goals walk_at "vrd"
  all_goals try exact k
  rename_i ds
  obtain ⟨hlen, hps⟩ := hp.tup_in
  split
  · rename_i c
    refine dt_eq k ?_
    show _ = Dt.bool (decide _ && _)
    rw [decide_eq_false (by omega)]
    rfl
  rename_i c
  have hc : ds.length ≤ 120 := by omega
  rw [eq_t0 hp.plain]
  walk_at "vrd"
  cases ds with
  | nil =>
    walk_at "vrd"
    exact k
  | cons r rs =>
    rw [if_neg (by simp)]
    walk_at "vrd"
    have hr := hps r List.mem_cons_self
    have kb : Q (.bool (costs1 r (r :: rs))) [] cs := by
      refine dt_eq k ?_
      show _ = Dt.bool (decide _ && _)
      rw [decide_eq_true hc]
      rfl
    have ht2 := hr.ty
    cases r <;> first | (cases ht2; done) | skip
    all_goals walk_at "vrd"
    all_goals try exact kb
    rename_i es
    have kb : Q (.bool (decide (1 ≤ es.length ∧ es.length ≤ 5) && (Dt.tuple es :: rs).all (fun d => rowB d es.length))) [] cs := kb
    split
    · split
      · rename_i c1 c2
        rw [decide_eq_true (show 1 ≤ es.length ∧ es.length ≤ 5 by omega), Bool.true_and] at kb
        have ix : (Dt.tuple es :: rs)[0]? = some (.tuple es) := rfl
        generalize Dt.tuple es :: rs = Z at hps kb hlen ix ⊢
        refine r_mapT (fun d => .bool (rowB d es.length)) rfl (by omega) (fun d hd R N hR => ?_) ?_
        · walk_at "vrd"
          rw [ix]
          walk_at "vrd"
          walk_at "call"
          refine ⟨d, _, rfl, hps d hd, ?_⟩
          walk_at "vrd"
          exact hR
        · walk_at "vrd"
          exact kb
      · rename_i c1 c2
        rw [decide_eq_false (show ¬ (1 ≤ es.length ∧ es.length ≤ 5) by omega), Bool.false_and] at kb
        exact kb
    · rename_i c1
      rw [decide_eq_false (show ¬ (1 ≤ es.length ∧ es.length ≤ 5) by omega), Bool.false_and] at kb
      exact kb
/-- costs, in numbers -/
structure Rows (rows : List (List Int)) (n : Nat) : Prop where
  many : rows.length ≤ 120
  n1 : 1 ≤ n
  n5 : n ≤ 5
  row : ∀ r ∈ rows, r.length = n ∧ ∀ i ∈ r, 1 ≤ i ∧ i ≤ 1000000
def rowsD (rows : List (List Int)) : List Dt := rows.map fun r => .tuple (r.map .int)
theorem bt_int {d : Dt} {lo hi : Int} (h : isBt d lo hi = true) : ∃ i, d = .int i ∧ lo ≤ i ∧ i ≤ hi := by
  cases d <;> first | (cases h; done) | skip
  rw [bt_range] at h
  exact ⟨_, rfl, of_decide_eq_true h⟩
theorem bts_int {lo hi : Int} : ∀ {ds : List Dt}, ds.all (fun d => isBt d lo hi) = true → ∃ ns : List Int, ds = ns.map .int ∧ ∀ i ∈ ns, lo ≤ i ∧ i ≤ hi
  | [], _ => ⟨[], rfl, fun i m => by cases m⟩
  | d :: r, h => by
    rw [List.all_cons, Bool.and_eq_true] at h
    obtain ⟨i, rfl, h1⟩ := bt_int h.1
    obtain ⟨ns, rfl, h2⟩ := bts_int h.2
    refine ⟨i :: ns, rfl, fun j m => ?_⟩
    rcases List.mem_cons.mp m with rfl | m
    · exact h1
    · exact h2 j m
theorem row_int {d : Dt} {m : Int} (h : rowB d m = true) : ∃ ns : List Int, d = .tuple (ns.map .int) ∧ (ns.length : Int) = m ∧ ∀ i ∈ ns, 1 ≤ i ∧ i ≤ 1000000 := by
  cases d <;> first | (cases h; done) | skip
  have h : (decide _ && _) = true := h
  rw [Bool.and_eq_true] at h
  obtain ⟨ns, rfl, h2⟩ := bts_int h.2
  have h1 := of_decide_eq_true h.1
  rw [List.length_map] at h1
  exact ⟨ns, rfl, h1, h2⟩
theorem rows_int {m : Int} : ∀ {ds : List Dt}, ds.all (fun d => rowB d m) = true → ∃ rows : List (List Int), ds = rowsD rows ∧ ∀ r ∈ rows, (r.length : Int) = m ∧ ∀ i ∈ r, 1 ≤ i ∧ i ≤ 1000000
  | [], _ => ⟨[], rfl, fun i m => by cases m⟩
  | d :: r, h => by
    rw [List.all_cons, Bool.and_eq_true] at h
    obtain ⟨ns, rfl, h1⟩ := row_int h.1
    obtain ⟨rows, rfl, h2⟩ := rows_int h.2
    refine ⟨ns :: rows, rfl, fun j m => ?_⟩
    rcases List.mem_cons.mp m with rfl | m
    · exact h1
    · exact h2 j m
theorem costs_int {x : Dt} (h : costsB x = true) : ∃ rows n, x = .tuple (rowsD rows) ∧ Rows rows n ∧ (rows = [] → n = 1) := by
  cases x <;> first | (cases h; done) | skip
  rename_i ds
  have h : (decide _ && _) = true := h
  rw [Bool.and_eq_true] at h
  have hm := of_decide_eq_true h.1
  cases ds with
  | nil => exact ⟨[], 1, rfl, ⟨by decide, by decide, by decide, fun r m => by cases m⟩, fun _ => rfl⟩
  | cons r rs =>
    have h2 : costs1 r (r :: rs) = true := h.2
    cases r <;> first | (cases h2; done) | skip
    rename_i es _
    have h2 : (decide _ && _) = true := h2
    rw [Bool.and_eq_true] at h2
    obtain ⟨rows, e, h3⟩ := rows_int h2.2
    have h4 := of_decide_eq_true h2.1
    refine ⟨rows, es.length, by rw [e], ⟨?_, h4.1, h4.2, fun r m => ?_⟩, fun z => ?_⟩
    · have := congrArg List.length e
      unfold rowsD at this
      rw [List.length_map] at this
      omega
    · obtain ⟨h5, h6⟩ := h3 r m
      exact ⟨by omega, h6⟩
    · rw [z] at e
      cases e
end
end VC
/-! VUnder: the chooser under way, by value. -/
namespace VC
open PySem PySem.Spec PyProof.Rows L2 Ts Dv K87
local macro_rules | `(tactic| walk_at "vrh") => `(tactic| simp (config := {decide := true}) only [Bool.or_eq_true, Option.getD_some, Option.getD_none, decide_eq_true_eq, Ts.isaD, Ts.kindD, Ts.isaK, Bool.not_true, Bool.not_false, Bool.or_self, Bool.and_self, List.map_cons, List.map_nil, List.length_cons, List.length_nil, List.replicate, List.cons_append, List.nil_append, Nat.reduceSub, Nat.reduceAdd, List.set_cons_zero, List.set_cons_succ, ↓reduceIte, Bool.false_eq_true, reduceCtorEq, true_and, and_true, List.append_nil, Option.isSome_some, Nat.reduceLeDiff, Bool.and_true, Bool.true_and, Bool.or_true, Bool.true_or, decide_true, Nat.zero_add, Int.reduceNeg, Int.reducePow, Int.reduceLE, Int.reduceLT, Int.reduceAdd, Int.reduceSub, Int.reduceMul, Int.toNat_natCast, Option.map_some, Option.bind_some, beq_self_eq_true, Dv.bO_some, Dv.bO_none, Dv.ite_dec, Dv.gS_0, Dv.gS_n, Dv.gS_s, Dv.v_slot, Dv.v_val, Dv.v_cell, Dv.set_mk, Dv.cell_mk, Dv.pa_slot, Dv.pa_cell, Dv.refOf, Dv.boOf, Dv.intOf, Dv.tupOf, Dv.lstOf, Dv.dicOf_d, Dv.insOf_same, Dv.e_fl, Dv.e_kK, Dv.plc, Dv.e_var, Dv.e_c, Dv.e_cell, Dv.e_kCell, Dv.e_L, Dv.e_kL, Dv.e_Ls, Dv.e_Lc, Dv.e_kLc1, Dv.e_kLc2, Dv.e_Rd, Dv.e_kRd, Dv.e_Op, Dv.e_kOp1, Dv.e_kOp2, Dv.e_OpL, Dv.e_kOpL1, Dv.e_kOpL2, Dv.e_kOpL3, Dv.e_Tst, Dv.e_kTst, Dv.e_kTst2, Dv.e_Un, Dv.e_kUn, Dv.e_Ch, Dv.e_kCh1, Dv.e_kCh2, Dv.e_kCh3, Dv.e_kCh4, Dv.e_kCh5, Dv.e_And, Dv.e_kAnd, Dv.e_Or, Dv.e_kOr, Dv.e_Not, Dv.e_kNot, Dv.e_AndV, Dv.e_kAndV, Dv.e_kAndV2, Dv.e_OrV, Dv.e_kOrV, Dv.e_kOrV2, Dv.e_NotV, Dv.e_kNotV, Dv.e_kNotV2, Dv.e_IfV, Dv.e_kIfV, Dv.e_nil, Dv.e_Cons, Dv.e_kCons1, Dv.e_kCons2, Dv.e_Tup, Dv.e_kTup, Dv.e_Lst, Dv.e_kLst, Dv.e_Ca, Dv.e_kCa, Dv.e_NewL, Dv.e_kNewL, Dv.e_kNewL2, Dv.e_Seq, Dv.e_kSeqn, Dv.e_kSeqrt, Dv.e_kSeqbk, Dv.e_kSeqct, Dv.e_kSeqer, Dv.e_Next, Dv.e_Brk, Dv.e_Cnt, Dv.e_Drop, Dv.e_kDrop, Dv.e_Ret, Dv.e_RetN, Dv.e_RetO, Dv.e_kRetO, Dv.e_RetC, Dv.e_kRetC, Dv.e_IfS, Dv.e_kIfS, Dv.e_gNm, Dv.e_gNms0, Dv.e_gNms1, Dv.e_gTpN, Dv.e_gTpL, Dv.e_kTpN, Dv.e_Asg, Dv.e_kAsg, Dv.e_Set, Dv.e_kSet, Dv.e_Take, Dv.e_kTake, Dv.e_kTake2, Dv.e_kTake3, Dv.e_For, Dv.e_kWh, Dv.e_Call, Dv.e_kCall, Dv.e_NilR, Dv.e_ConsR, Dv.e_kConsR1, Dv.e_kConsR2, Dv.e_kBack, Dv.e_putP0, Dv.e_putP1, Dv.e_putP2, Dv.e_delP0, Dv.e_delP1, Dv.e_delP2, Dv.e_Yes, Dv.e_ItF, Dv.e_kItF, Dv.e_ItT, Dv.e_kItT, Dv.e_ItL, Dv.e_kItL, Dv.wipe_0, Dv.wipe_1, Dv.e_kME, Dv.e_kMB, Dv.e_kMT, Dv.e_LcS, Dv.e_Rg1, Dv.e_kRg1, Dv.e_Rg2, Dv.e_kRg2, Dv.e_EnL, Dv.e_kEnL, Dv.e_EnT, Dv.e_kEnT, Dv.e_kEn2, Dv.e_Zp, Dv.e_kZp, Dv.e_kZp2, Dv.sq_t, Dv.sq_l, Dv.e_No, Dv.e_Pt, Dv.e_kPt, Dv.e_kPt2, Dv.e_SlT, Dv.e_kSlT1, Dv.e_kSlT2, Dv.e_kSlT3, Dv.e_kSlT4, Dv.e_SlL, Dv.e_kSlL1, Dv.e_kSlL2, Dv.e_kSlL3, Dv.e_kSlL4, Dv.e_Prs0, Dv.e_Prs1, Dv.e_kPr1, Dv.e_kPr2, Dv.e_kPr3, Dv.e_Di, Dv.e_kDi, Dv.e_kDi2, Dv.e_ks0, Dv.e_ks1, Dv.e_ks2, Dv.e_NewD, Dv.e_Mu, Dv.e_kMu1, Dv.e_kMu2, Dv.e_kMu3, Dv.e_kMu4, Dv.e_kMu5, Dv.e_PD, Dv.e_kPD1, Dv.e_kPD2, Dv.e_kPD3, Dv.e_kPD4, Dv.e_kPD5, Dv.e_iS, Option.bind_some, Option.map_some, Dv.e_AI, Dv.e_kAI1, Dv.e_kAI2, Dv.e_kAI3, Dv.e_AL, Dv.e_kAL1, Dv.e_kAL2, Dv.e_kAL3, Dv.e_kAL4, Dv.e_Raise, Dv.e_Fld, Dv.e_kFld, Dv.e_kFld2, Dv.e_SF, Dv.e_kSF1, Dv.e_kSF2, Dv.e_kSF3, Dv.e_Me, Dv.e_kMe, Dv.e_kMe1, Dv.e_kMe2, Dv.e_Mk, Dv.e_kMk, Dv.e_kMk2, Dv.e_kMk3, Dv.e_vrt, Dv.e_vnx, Dv.e_ver, Dv.e_kOut, Dv.e_outs0, Dv.e_outs2, Dv.plain_int, Dv.plain_bool, Dv.plain_none, Dv.plain_str, Dv.flat_none, Dv.flat_bool, Dv.flat_int, Dv.flat_str, Dv.plain_l, Dv.plain_t, Dv.eq_ss, Dv.eq_ii, Dv.eq_si, Dv.eq_sn, Dv.eq_sb, Dv.eq_st, Dv.eq_sl, Dv.mem_nil, Dv.mem_cons, Dv.gIn_l, Dv.gIn_t, Dv.gNi_l, Dv.gNi_t, List.all_cons, List.all_nil, Bool.or_false, Bool.false_or, Dv.gDiv_int, Dv.gMod_int, Dv.gMul_int, Dv.ite_or, Dv.gI_int, Dv.divB, Dv.modB, Dv.mulB, Dv.gAdd_i, Dv.gSub_i, Dv.gLt_i, Dv.gLe_i, Dv.gGt_i, Dv.gGe_i, Dv.gNeg_i, Dv.gEqI_i, Dv.gNeI_i, Dv.gEqS_s, Dv.gNeS_s, Dv.gMax2_i, Dv.gMin2_i, Dv.gInt_b, Dv.gInt_i, Dv.len_l, Dv.len_t, Dv.len_f, Dv.not_dec, Dv.st0, Dv.isTy, Dv.strOk_of, Dv.flat_of, Dv.e_ListRg, Dv.e_kListRg, Dv.e_SortedSet, Dv.e_kSortedSet, Dv.gIsN_e, Dv.gNotN_e, Dv.isN_non, Dv.isN_bl, Dv.isN_int, Dv.isN_str, Dv.isN_l, Dv.isN_t, Dv.isN_d, Dv.isN_e, Dv.isN_r, Dv.isN_i, Dv.cat_l, Dv.cat_t, Dv.cnt_l, Dv.cntD_nil, Dv.cntD_cons, Dv.idx_l, Dv.ixD_nil, Dv.ixD_cons, Dv.eq_bb, Dv.ix_n, Dv.ixT_n, Dv.ix_i, Dv.ixT_i, Dv.ix_m1, Dv.ixT_m1, Dv.tup_l, Dv.tup_t, Dv.e_FA, Dv.e_kFA1, Dv.e_kFA1', Dv.e_kFA2, Dv.e_kFA3, Dv.e_kFA4, Dv.e_kFA5, Dv.cput_same, Dv.cput_cput, Dv.items_t, Dv.items_l, Dv.e_SI, Dv.e_kSI0, Dv.e_kSI1, Dv.e_kSI2, Dv.e_kSI3, Dv.e_kSI4, Dv.e_kSI5, Dv.fget_nil, Dv.fget_cons, Dv.fput_nil, Dv.fput_cons, Dv.all_b, Dv.all_m, Dv.sum_i, List.getElem?_cons_zero, List.getElem?_cons_succ, Int.ofNat_eq_natCast, Int.cast_ofNat_Int, Int.reduceToNat, Dv.e_Bm, Dv.e_kBm1, Dv.e_kBm1', Dv.e_kBm2, Dv.e_kBm3, Dv.isRd_l, Dv.isRd_s, Dv.e_Try, Dv.e_trnx, Dv.e_trrt, Dv.e_trbk, Dv.e_trct, Dv.e_trer, Dv.e_kTr, Dv.lkB_nil, Dv.lkB_cons, Dv.isEr_e, Dv.e_Lam, Dv.e_kLam, Dv.e_wipe0, Dv.e_wipe1, Dv.e_Act, Dv.e_kAct, Dv.e_kActE, Dv.e_lamS, Dv.e_kLs, Dv.e_kLsE, Dv.gKin_s, Dv.gKix_s, Dv.litD_t, Dv.litD_i, Dv.litD_n, Dv.isa_i, Dv.isa_s, Dv.isa_b, Dv.isa_n, Dv.isa_t, Dv.isa_l, Dv.isa_d, Dv.isa_dt, Dv.e_GO, Dv.e_GO1, Dv.e_GO2, Dv.e_GO3, Dv.e_GO4, Dv.e_GO5, Dv.kOf_str, Dv.kOf_int, Dv.lk_cons, Dv.lk_nil, Dv.e_Par, Dv.e_kPar, Dv.merge_nd, Dv.gDGet_d, Dv.gDIn_d, *])
local macro_rules | `(tactic| walk_at "vrd") => `(tactic| simp (config := {decide := true}) only [Bool.or_eq_true, Option.getD_some, Option.getD_none, decide_eq_true_eq, Ts.isaD, Ts.kindD, Ts.isaK, Bool.not_true, Bool.not_false, Bool.or_self, Bool.and_self, List.map_cons, List.map_nil, List.length_cons, List.length_nil, List.replicate, List.cons_append, List.nil_append, Nat.reduceSub, Nat.reduceAdd, List.set_cons_zero, List.set_cons_succ, ↓reduceIte, Bool.false_eq_true, reduceCtorEq, true_and, and_true, List.append_nil, Option.isSome_some, Nat.reduceLeDiff, Bool.and_true, Bool.true_and, Bool.or_true, Bool.true_or, decide_true, Nat.zero_add, Int.reduceNeg, Int.reducePow, Int.reduceLE, Int.reduceLT, Int.reduceAdd, Int.reduceSub, Int.reduceMul, Int.toNat_natCast, Option.map_some, Option.bind_some, beq_self_eq_true, Dv.bO_some, Dv.bO_none, Dv.ite_dec, Dv.gS_0, Dv.gS_n, Dv.gS_s, Dv.v_slot, Dv.v_val, Dv.v_cell, Dv.set_mk, Dv.cell_mk, Dv.pa_slot, Dv.pa_cell, Dv.refOf, Dv.boOf, Dv.intOf, Dv.tupOf, Dv.lstOf, Dv.dicOf_d, Dv.insOf_same, Dv.e_fl, Dv.e_kK, Dv.plc, Dv.e_var, Dv.e_c, Dv.e_cell, Dv.e_kCell, Dv.e_L, Dv.e_kL, Dv.e_Ls, Dv.e_Lc, Dv.e_kLc1, Dv.e_kLc2, Dv.e_Rd, Dv.e_kRd, Dv.e_Op, Dv.e_kOp1, Dv.e_kOp2, Dv.e_OpL, Dv.e_kOpL1, Dv.e_kOpL2, Dv.e_kOpL3, Dv.e_Tst, Dv.e_kTst, Dv.e_kTst2, Dv.e_Un, Dv.e_kUn, Dv.e_Ch, Dv.e_kCh1, Dv.e_kCh2, Dv.e_kCh3, Dv.e_kCh4, Dv.e_kCh5, Dv.e_And, Dv.e_kAnd, Dv.e_Or, Dv.e_kOr, Dv.e_Not, Dv.e_kNot, Dv.e_AndV, Dv.e_kAndV, Dv.e_kAndV2, Dv.e_OrV, Dv.e_kOrV, Dv.e_kOrV2, Dv.e_NotV, Dv.e_kNotV, Dv.e_kNotV2, Dv.e_IfV, Dv.e_kIfV, Dv.e_nil, Dv.e_Cons, Dv.e_kCons1, Dv.e_kCons2, Dv.e_Tup, Dv.e_kTup, Dv.e_Lst, Dv.e_kLst, Dv.e_Ca, Dv.e_kCa, Dv.e_NewL, Dv.e_kNewL, Dv.e_kNewL2, Dv.e_Seq, Dv.e_kSeqn, Dv.e_kSeqrt, Dv.e_kSeqbk, Dv.e_kSeqct, Dv.e_kSeqer, Dv.e_Next, Dv.e_Brk, Dv.e_Cnt, Dv.e_Drop, Dv.e_kDrop, Dv.e_Ret, Dv.e_RetN, Dv.e_RetO, Dv.e_kRetO, Dv.e_RetC, Dv.e_kRetC, Dv.e_IfS, Dv.e_kIfS, Dv.e_gNm, Dv.e_gNms0, Dv.e_gNms1, Dv.e_gTpN, Dv.e_gTpL, Dv.e_kTpN, Dv.e_Asg, Dv.e_kAsg, Dv.e_Set, Dv.e_kSet, Dv.e_Take, Dv.e_kTake, Dv.e_kTake2, Dv.e_kTake3, Dv.e_For, Dv.e_kWh, Dv.e_Call, Dv.e_kCall, Dv.e_NilR, Dv.e_ConsR, Dv.e_kConsR1, Dv.e_kConsR2, Dv.e_kBack, Dv.e_putP0, Dv.e_putP1, Dv.e_putP2, Dv.e_delP0, Dv.e_delP1, Dv.e_delP2, Dv.e_Yes, Dv.e_ItF, Dv.e_kItF, Dv.e_ItT, Dv.e_kItT, Dv.e_ItL, Dv.e_kItL, Dv.wipe_0, Dv.wipe_1, Dv.e_kME, Dv.e_kMB, Dv.e_kMT, Dv.e_LcS, Dv.e_Rg1, Dv.e_kRg1, Dv.e_Rg2, Dv.e_kRg2, Dv.e_EnL, Dv.e_kEnL, Dv.e_EnT, Dv.e_kEnT, Dv.e_kEn2, Dv.e_Zp, Dv.e_kZp, Dv.e_kZp2, Dv.sq_t, Dv.sq_l, Dv.e_No, Dv.e_Pt, Dv.e_kPt, Dv.e_kPt2, Dv.e_SlT, Dv.e_kSlT1, Dv.e_kSlT2, Dv.e_kSlT3, Dv.e_kSlT4, Dv.e_SlL, Dv.e_kSlL1, Dv.e_kSlL2, Dv.e_kSlL3, Dv.e_kSlL4, Dv.e_Prs0, Dv.e_Prs1, Dv.e_kPr1, Dv.e_kPr2, Dv.e_kPr3, Dv.e_Di, Dv.e_kDi, Dv.e_kDi2, Dv.e_ks0, Dv.e_ks1, Dv.e_ks2, Dv.e_NewD, Dv.e_Mu, Dv.e_kMu1, Dv.e_kMu2, Dv.e_kMu3, Dv.e_kMu4, Dv.e_kMu5, Dv.e_PD, Dv.e_kPD1, Dv.e_kPD2, Dv.e_kPD3, Dv.e_kPD4, Dv.e_kPD5, Dv.e_iS, Option.bind_some, Option.map_some, Dv.e_AI, Dv.e_kAI1, Dv.e_kAI2, Dv.e_kAI3, Dv.e_AL, Dv.e_kAL1, Dv.e_kAL2, Dv.e_kAL3, Dv.e_kAL4, Dv.e_Raise, Dv.e_Fld, Dv.e_kFld, Dv.e_kFld2, Dv.e_SF, Dv.e_kSF1, Dv.e_kSF2, Dv.e_kSF3, Dv.e_Me, Dv.e_kMe, Dv.e_kMe1, Dv.e_kMe2, Dv.e_Mk, Dv.e_kMk, Dv.e_kMk2, Dv.e_kMk3, Dv.e_vrt, Dv.e_vnx, Dv.e_ver, Dv.e_kOut, Dv.e_outs0, Dv.e_outs2, Dv.plain_int, Dv.plain_bool, Dv.plain_none, Dv.plain_str, Dv.flat_none, Dv.flat_bool, Dv.flat_int, Dv.flat_str, Dv.plain_l, Dv.plain_t, Dv.eq_ss, Dv.eq_ii, Dv.eq_si, Dv.eq_sn, Dv.eq_sb, Dv.eq_st, Dv.eq_sl, Dv.mem_nil, Dv.mem_cons, Dv.gIn_l, Dv.gIn_t, Dv.gNi_l, Dv.gNi_t, List.all_cons, List.all_nil, Bool.or_false, Bool.false_or, Dv.gDiv_int, Dv.gMod_int, Dv.gMul_int, Dv.ite_or, Dv.gI_int, Dv.divB, Dv.modB, Dv.mulB, Dv.gAdd_i, Dv.gSub_i, Dv.gLt_i, Dv.gLe_i, Dv.gGt_i, Dv.gGe_i, Dv.gNeg_i, Dv.gEqI_i, Dv.gNeI_i, Dv.gEqS_s, Dv.gNeS_s, Dv.gMax2_i, Dv.gMin2_i, Dv.gInt_b, Dv.gInt_i, Dv.len_l, Dv.len_t, Dv.len_f, Dv.not_dec, Dv.st0, Dv.isTy, Dv.strOk_of, Dv.flat_of, Dv.e_ListRg, Dv.e_kListRg, Dv.e_SortedSet, Dv.e_kSortedSet, Dv.gIsN_e, Dv.gNotN_e, Dv.isN_non, Dv.isN_bl, Dv.isN_int, Dv.isN_str, Dv.isN_l, Dv.isN_t, Dv.isN_d, Dv.isN_e, Dv.isN_r, Dv.isN_i, Dv.cat_l, Dv.cat_t, Dv.cnt_l, Dv.cntD_nil, Dv.cntD_cons, Dv.idx_l, Dv.ixD_nil, Dv.ixD_cons, Dv.eq_bb, Dv.ix_n, Dv.ixT_n, Dv.ix_i, Dv.ixT_i, Dv.ix_m1, Dv.ixT_m1, Dv.tup_l, Dv.tup_t, Dv.e_FA, Dv.e_kFA1, Dv.e_kFA1', Dv.e_kFA2, Dv.e_kFA3, Dv.e_kFA4, Dv.e_kFA5, Dv.cput_same, Dv.cput_cput, Dv.items_t, Dv.items_l, Dv.e_SI, Dv.e_kSI0, Dv.e_kSI1, Dv.e_kSI2, Dv.e_kSI3, Dv.e_kSI4, Dv.e_kSI5, Dv.fget_nil, Dv.fget_cons, Dv.fput_nil, Dv.fput_cons, Dv.all_b, Dv.all_m, Dv.sum_i, List.getElem?_cons_zero, List.getElem?_cons_succ, Int.ofNat_eq_natCast, Int.cast_ofNat_Int, Int.reduceToNat, Dv.e_Bm, Dv.e_kBm1, Dv.e_kBm1', Dv.e_kBm2, Dv.e_kBm3, Dv.isRd_l, Dv.isRd_s, Dv.e_Try, Dv.e_trnx, Dv.e_trrt, Dv.e_trbk, Dv.e_trct, Dv.e_trer, Dv.e_kTr, Dv.lkB_nil, Dv.lkB_cons, Dv.isEr_e, Dv.e_Lam, Dv.e_kLam, Dv.e_wipe0, Dv.e_wipe1, Dv.e_Act, Dv.e_kAct, Dv.e_kActE, Dv.e_lamS, Dv.e_kLs, Dv.e_kLsE, Dv.gKin_s, Dv.gKix_s, Dv.litD_t, Dv.litD_i, Dv.litD_n, Dv.isa_i, Dv.isa_s, Dv.isa_b, Dv.isa_n, Dv.isa_t, Dv.isa_l, Dv.isa_d, Dv.isa_dt, Dv.e_GO, Dv.e_GO1, Dv.e_GO2, Dv.e_GO3, Dv.e_GO4, Dv.e_GO5, Dv.kOf_str, Dv.kOf_int, Dv.lk_cons, Dv.lk_nil, Dv.e_Par, Dv.e_kPar, Dv.merge_nd, Dv.gDGet_d, Dv.gDIn_d])
local macro_rules | `(tactic| walk_at "call") => `(tactic| refine Dv.r_call _ _ rfl rfl (by decide) rfl rfl ?_)

def undD (n : Nat) (t : Int) (s : UM.St) : Dt := .ins "Under" [("many", .int n), ("toll", .int t), ("kind", .int s.kind), ("sums", .tuple (s.sums.map .int)), ("paid", .int s.paid), ("phases", .int s.phases)]
def S_first : Fs := pS fun ds P _ => ∃ (r : List Int) (ps : List Nat), ds = [.tuple (r.map .int), .list (ps.map fun (p : Nat) => Dt.int p)] ∧ ps ≠ [] ∧ (∀ p ∈ ps, p < r.length) ∧ ps.length ≤ 1000 ∧ P (.int (UM.firstLeast r ps)) []
theorem ixI {r : List Int} {p : Nat} (h : p < r.length) : (r.map Dt.int)[p]? = some (.int (UM.at0 r p)) := by
  rw [List.getElem?_map, List.getElem?_eq_getElem h]
  show some _ = some (Dt.int (r.getD p 0))
  rw [List.getD_eq_getElem?_getD, List.getElem?_eq_getElem h]
  rfl
theorem min_i {ns : List Int} (h : ns ≠ []) : gMinL (.list (ns.map .int)) = some (.int (lmin ns)) := by
  show (match (intsOf (ns.map .int)) with | some ns => if ns ≠ [] then some (Dt.int (lmin ns)) else none | none => none) = _
  rw [intsOf_map]
  exact if_pos h
section
variable {P : Program} {w : World} {K : PySem.W.Frag} {mg : Str → Option Value} {base : Heap} {TL : Tbs}
theorem sc_first_least : FnScope ["row", "places", "least", "place"] ["row", "places"] (defScope sfirst_least) := ⟨rfl, rfl, rfl, by decide +kernel, rfl, by decide +kernel, by decide +kernel⟩
theorem v_first_least (T : Tw fa fn ts xb w K mg) : GFn P w K mg base 1 (He.fAd K dfirst_least.at_) ["row", "places"] (spV K TL 2 [] S_first) := by
  obtain ⟨fd, F⟩ := T.says.def_ 6 (d := dfirst_least) rfl
  refine okV (fun i => ([] : List Nat).contains i) [] _ F sc_first_least (fun _ _ _ _ _ _ us hl => match us, hl with | [_, _], _ => rfl) rfl rfl (by decide) ⟨_, fun cdv hcdv A outer s H E hr => have hu := hu_of hr.rm; have hu65 := hu65_of hr.rm; (vss_cons (vs_set (i := 2) (vx_b1 (cMinV rfl) (vb_of (vx_of (vn_lc (vs := [3]) (g := gName 3) (vi_lst (vx_var (pv 1)) (fun h => piL K h)) (dgw_name (by decide) rfl rfl) rfl (fun {wi} hi => pe_lc (own := [("place", 3)]) (g := gName 3) rfl sc_first_least.nd hi (blkOk_by (N := ["row", "places", "least", "place"]) (sc := defScope sfirst_least) (by decide +kernel)) (fun _ _ _ _ _ => pg_name (i := 3) sc_first_least.nd rfl (Or.inl rfl)) (fun _ _ _ _ _ => vts_nil) (fun _ _ _ _ _ => VX.can (vx_ix iSeq (vx_var (pv 0)) (vx_var (pv 3)))))))) (fun h1 h2 => pe_callB h1 (by rfl) (T.b 76) (by decide +kernel) h2)) (fun h => ps_set (i := 2) sc_first_least.nd rfl (Or.inr rfl) h))
      (vss_one (vs_ret (vx_ix iSeq (vx_of (vn_lc (vs := [3]) (g := gName 3) (vi_lst (vx_var (pv 1)) (fun h => piL K h)) (dgw_name (by decide) rfl rfl) rfl (fun {wi} hi => pe_lc (own := [("place", 3)]) (g := gName 3) rfl sc_first_least.nd hi (blkOk_by (N := ["row", "places", "least", "place"]) (sc := defScope sfirst_least) (by decide +kernel)) (fun _ _ _ _ _ => pg_name (i := 3) sc_first_least.nd rfl (Or.inl rfl)) (fun _ _ _ _ _ => (vts_one (vt_cmp oEqI (vx_ix iSeq (vx_var (pv 0)) (vx_var (pv 3))) (vb_of (vx_var (pv 2))) (nomark _)))) (fun _ _ _ _ _ => VX.can (vx_var (pv 3)))))) (vx_int pe_int))))), fun ds cs Q Er hl h => ?_⟩
  clear hl
  obtain ⟨r, ps, rfl, hne, hlt, hlen, k⟩ := h
  walk_at "vrd"
  refine r_mapG (fun (p : Nat) => Dt.int p) (fun p => Dt.int (UM.at0 r p)) rfl (by omega) (fun p hp R N hR => ?_) ?_
  · walk_at "vrd"
    rw [ixI (hlt p hp)]
    walk_at "vrd"
    exact hR
  walk_at "vrd"
  rw [show ps.map (fun p => Dt.int (UM.at0 r p)) = (ps.map (UM.at0 r)).map Dt.int from by rw [List.map_map]; rfl, min_i (by simpa using hne)]
  walk_at "vrd"
  refine r_mapFG (fun (p : Nat) => Dt.int p) (fun p => decide (UM.at0 r p = UM.leastOf r ps)) (fun (p : Nat) => Dt.int p) rfl (by omega) (fun p hp R N hR hN => ?_) ?_
  · walk_at "vrd"
    rw [ixI (hlt p hp)]
    walk_at "vrd"
    split
    · rename_i c
      exact hR (decide_eq_true c)
    · rename_i c
      exact hN (decide_eq_false c)
  walk_at "vrd"
  have hf := UM.firstLeast_mem (r := r) hne
  have e : UM.firstLeast r ps = (ps.filter fun p => decide (UM.at0 r p = UM.leastOf r ps)).headD 0 := rfl
  generalize hZ : (ps.filter fun p => decide (UM.at0 r p = UM.leastOf r ps)) = Z at e ⊢
  cases Z with
  | nil =>
    have m : UM.firstLeast r ps ∈ ps.filter fun p => decide (UM.at0 r p = UM.leastOf r ps) := List.mem_filter.mpr ⟨hf.1, decide_eq_true hf.2⟩
    rw [hZ] at m
    cases m
  | cons y ys =>
    walk_at "vrd"
    rw [e] at k
    exact k
theorem outs_eq {Q : Dt → List Dt → Cells → Prop} {d : Dt} {o o' : List Dt} {cs : Cells} (k : Q d o' cs) (e : o = o') : Q d o cs := e ▸ k
def S_und_init : Fs := pS fun ds P E => ∃ m t, ds = [.ins "Under" [], m, t] ∧ Sd m ∧ Sd t ∧ (∀ (n : Nat) (toll : Int), m = .int n → t = .int toll → 1 ≤ n → n ≤ 5 → 1 ≤ toll → toll ≤ 1000 → P .none [undD n toll (UM.st0 n)]) ∧ ((isBt m 1 5 && tollB t) = false → E "NoCosts" [.ins "Under" []])
def S_und_row : Fs := pS fun ds P _ => ∃ n t s x, ds = [undD n t s, x] ∧ Sd x ∧ P (.bool (rowB x n)) [undD n t s]
theorem sc_Under_init : FnScope ["self", "many", "toll"] ["self", "many", "toll"] (defScope sUnder_init) := ⟨rfl, rfl, rfl, by decide +kernel, rfl, by decide +kernel, by decide +kernel⟩
theorem v_Under_init (T : Tw fa fn ts xb w K mg) : GFn P w K mg base 5 (He.fAd K dUnder_init.at_) ["self", "many", "toll"] (spV K TL 3 [0] S_und_init) := by
  obtain ⟨fd, F⟩ := T.says.def_ 23 (d := dUnder_init) rfl
  refine okV (fun i => ([0] : List Nat).contains i) [0] _ F sc_Under_init (fun _ _ _ _ _ _ us hl => match us, hl with | [_, _, _], _ => rfl) rfl rfl (by decide) ⟨_, fun cdv hcdv A outer s H E hr => have hu := hu_of hr.rm; have hu65 := hu65_of hr.rm; (vss_cons (vs_if (vt_w (vw_or (vt_not (vt_val (vx_call (v_is_whole_in T) (hr.mono (by decide)) (T.g 5) (fun σ => passAt (takes_of rfl rfl rfl rfl) σ) (vr_cons (vl_val (vx_var (pv 1))) (vr_cons (vl_val (vx_int pe_int)) (vr_cons (vl_val (vx_int (pgi (T.i 41)))) vr_nil)))))) (vw_or1 (vt_not (vt_val (vx_call (v_is_toll T) (hr.mono (by decide)) (T.g 4) (fun σ => passAt (takes_of rfl rfl rfl rfl) σ) (vr_cons (vl_val (vx_var (pv 2))) vr_nil))))))) (vss_one (vs_raiseE rfl (takes_of rfl rfl rfl rfl) (T.exc 51) (T.g 32) rfl)) vss_nil)
      (vss_cons (vs_fld (n := "Under") (T.cls 55) (T.noat 57) (vl_slot (pv 0)) (vx_var (pv 1)) (fun h1 h2 => ps_fld h1 h2 rfl))
      (vss_cons (vs_fld (n := "Under") (T.cls 55) (T.noat 58) (vl_slot (pv 0)) (vx_var (pv 2)) (fun h1 h2 => ps_fld h1 h2 rfl))
      (vss_cons (vs_fld (n := "Under") (T.cls 55) (T.noat 59) (vl_slot (pv 0)) (vx_int pe_int) (fun h1 h2 => ps_fld h1 h2 rfl))
      (vss_cons (vs_fld (n := "Under") (T.cls 55) (T.noat 60) (vl_slot (pv 0)) (vx_op oRepT (vx_tup (va_cons (vx_int pe_int) va_nil)) (vb_of (vx_var (pv 1)))) (fun h1 h2 => ps_fld h1 h2 rfl))
      (vss_cons (vs_fld (n := "Under") (T.cls 55) (T.noat 61) (vl_slot (pv 0)) (vx_int pe_int) (fun h1 h2 => ps_fld h1 h2 rfl))
      (vss_one (vs_fld (n := "Under") (T.cls 55) (T.noat 62) (vl_slot (pv 0)) (vx_int pe_int) (fun h1 h2 => ps_fld h1 h2 rfl))))))))), fun ds cs Q Er hl h => ?_⟩
  clear hl
  obtain ⟨m, t, rfl, hm, ht, k, ke⟩ := h
  walk_at "vrd"
  walk_at "call"
  refine ⟨_, _, _, rfl, hm, ?_⟩
  walk_at "vrd"
  cases e1 : isBt m 1 5 with
  | false =>
    walk_at "vrd"
    exact ke (by rw [e1]; rfl)
  | true =>
    walk_at "vrd"
    walk_at "call"
    refine ⟨_, rfl, ht, ?_⟩
    walk_at "vrd"
    cases e2 : tollB t with
    | false =>
      walk_at "vrd"
      exact ke (by rw [e1, e2]; rfl)
    | true =>
      obtain ⟨n, rfl, h1, h2⟩ := bt_int e1
      obtain ⟨toll, rfl, h3, h4⟩ := bt_int e2
      obtain ⟨n, rfl⟩ := Int.eq_ofNat_of_zero_le (show 0 ≤ n by omega)
      have k := k n toll rfl rfl (by omega) (by omega) h3 h4
      walk_at "vrd"
      rw [rep_t ⟨by omega, by omega, by decide⟩]
      walk_at "vrd"
      refine outs_eq k ?_
      show [Dt.ins "Under" _] = [Dt.ins "Under" _]
      have e : (List.replicate n [Dt.int 0]).flatten = (List.replicate n (0 : Int)).map .int := by
        simp
      rw [e]
      rfl
theorem sc_Under_is_row : FnScope ["self", "row", "number"] ["self", "row"] (defScope sUnder_is_row) := ⟨rfl, rfl, rfl, by decide +kernel, rfl, by decide +kernel, by decide +kernel⟩
theorem v_Under_is_row (T : Tw fa fn ts xb w K mg) : GFn P w K mg base 3 (He.fAd K dUnder_is_row.at_) ["self", "row"] (spV K TL 2 [0] S_und_row) := by
  obtain ⟨fd, F⟩ := T.says.def_ 24 (d := dUnder_is_row) rfl
  refine okV (fun i => ([0] : List Nat).contains i) [0] _ F sc_Under_is_row (fun _ _ _ _ _ _ us hl => match us, hl with | [_, _], _ => rfl) rfl rfl (by decide) ⟨_, fun cdv hcdv A outer s H E hr => have hu := hu_of hr.rm; have hu65 := hu65_of hr.rm; (vss_cons (vs_if (vt_w (vw_or (vt_not (vt_val (vx_isa (T := "tuple") (by decide +kernel) (T.b 72) (T.b 83) (by decide +kernel) (vb_of (vx_var (pv 1)))))) (vw_or1 (vt_cmp oNeI (vx_b1 cLenV (vb_of (vx_var (pv 1))) (fun h1 h2 => pe_callB h1 (by rfl) (T.b 73) (by decide +kernel) h2)) (vb_of (vx_fld (n := "Under") (T.cls 55) (T.noat 57) (vl_slot (pv 0)))) (nomark _))))) (vss_one (vs_ret (vx_bl pe_bl))) vss_nil)
      (vss_one (vs_ret (vx_b1 (cAllV rfl) (vb_of (vx_of (vn_lc (vs := [2]) (g := gName 2) (vi_tup (vx_var (pv 1)) (fun h => piT K h)) (dgw_name (by decide) rfl rfl) rfl (fun {wi} hi => pe_lc (own := [("number", 2)]) (g := gName 2) rfl sc_Under_is_row.nd hi (blkOk_by (N := ["self", "row", "number"]) (sc := defScope sUnder_is_row) (by decide +kernel)) (fun _ _ _ _ _ => pg_name (i := 2) sc_Under_is_row.nd rfl (Or.inl rfl)) (fun _ _ _ _ _ => vts_nil) (fun _ _ _ _ _ => VX.can (vx_call (v_is_whole_in T) (hr.mono (by decide)) (T.g 5) pn (vr_cons (vl_val (vx_var (pv 2))) (vr_cons (vl_val (vx_int pe_int)) (vr_cons (vl_val (vx_int (pgi (T.i 42)))) vr_nil))))))))) (fun h1 h2 => pe_callB h1 (by rfl) (T.b 68) (by decide +kernel) h2))))), fun ds cs Q Er hl h => ?_⟩
  clear hl
  obtain ⟨n, t, s, x, rfl, hp, k⟩ := h
  have ht := hp.ty
  unfold undD at k ⊢
  cases x <;> first | (cases ht; done) | skip
  all_goals walk_at "vrd"
  all_goals try exact k
  rename_i ds
  obtain ⟨hlen, hps⟩ := hp.tup_in
  split
  · rename_i c
    refine r_mapT (fun d => .bool (isBt d 1 1000000)) rfl (by omega) (fun d hd R N hR => ?_) ?_
    · walk_at "vrd"
      walk_at "call"
      refine ⟨d, _, _, rfl, hps d hd, ?_⟩
      walk_at "vrd"
      exact hR
    · walk_at "vrd"
      refine dt_eq k ?_
      show _ = Dt.bool (decide _ && _)
      rw [decide_eq_true c]
      rfl
  · rename_i c
    refine dt_eq k ?_
    show _ = Dt.bool (decide _ && _)
    rw [decide_eq_false c]
    rfl
theorem minT_i {ns : List Int} (h : ns ≠ []) : gMinL (.tuple (ns.map .int)) = some (.int (lmin ns)) := by
  show (match (intsOf (ns.map .int)) with | some ns => if ns ≠ [] then some (Dt.int (lmin ns)) else none | none => none) = _
  rw [intsOf_map]
  exact if_pos h
def chK (t : Int) (n : Nat) (s : UM.St) (r : List Int) : Nat := if UM.at0 s.sums s.kind < t then s.kind else if (UM.low t n s.sums).isEmpty = true then (if UM.at0 r s.kind = lmin r then s.kind else UM.firstLeast r (List.range n)) else UM.firstLeast s.sums (UM.low t n s.sums)
def chS (t : Int) (n : Nat) (s : UM.St) : UM.St := if UM.at0 s.sums s.kind < t then s else if (UM.low t n s.sums).isEmpty = true then { s with sums := List.replicate n 0, phases := s.phases + 1 } else s
def S_und_chosen : Fs := pS fun ds P _ => ∃ n t s r, ds = [undD n t s, .tuple (r.map .int)] ∧ s.kind < n ∧ s.sums.length = n ∧ r.length = n ∧ n ≤ 5 ∧ P (.int (chK t n s r)) [undD n t (chS t n s)]
theorem sc_Under_chosen : FnScope ["self", "row", "low", "kind"] ["self", "row"] (defScope sUnder_chosen) := ⟨rfl, rfl, rfl, by decide +kernel, rfl, by decide +kernel, by decide +kernel⟩
theorem v_Under_chosen (T : Tw fa fn ts xb w K mg) : GFn P w K mg base 3 (He.fAd K dUnder_chosen.at_) ["self", "row"] (spV K TL 2 [0] S_und_chosen) := by
  obtain ⟨fd, F⟩ := T.says.def_ 25 (d := dUnder_chosen) rfl
  refine okV (fun i => ([0] : List Nat).contains i) [0] _ F sc_Under_chosen (fun _ _ _ _ _ _ us hl => match us, hl with | [_, _], _ => rfl) rfl rfl (by decide) ⟨_, fun cdv hcdv A outer s H E hr => have hu := hu_of hr.rm; have hu65 := hu65_of hr.rm; (vss_cons (vs_if (vt_cmp oLt (vx_ix iSeq (vx_fld (n := "Under") (T.cls 55) (T.noat 60) (vl_slot (pv 0))) (vx_fld (n := "Under") (T.cls 55) (T.noat 59) (vl_slot (pv 0)))) (vb_of (vx_fld (n := "Under") (T.cls 55) (T.noat 58) (vl_slot (pv 0)))) (nomark _)) (vss_one (vs_ret (vx_fld (n := "Under") (T.cls 55) (T.noat 59) (vl_slot (pv 0))))) vss_nil)
      (vss_cons (vs_setLc (i := 2) (vs := [3]) (g := gName 3) (vi_rg1 (va_cons (vx_fld (n := "Under") (T.cls 55) (T.noat 57) (vl_slot (pv 0))) va_nil) (fun h => pi_range1 rfl (T.b 77) h)) (dgw_name (by decide) rfl rfl) rfl (fun {wi} hi => ps_setLc (i := 2) (own := [("kind", 3)]) (g := gName 3) rfl sc_Under_chosen.nd rfl rfl (sw_true rfl rfl rfl (by decide +kernel)) hi (blkOk_by (N := ["self", "row", "low", "kind"]) (sc := defScope sUnder_chosen) (by decide +kernel)) (fun _ _ _ _ _ => pg_name (i := 3) sc_Under_chosen.nd rfl (Or.inl rfl)) (fun _ _ _ _ _ => (vts_one (vt_cmp oLt (vx_ix iSeq (vx_fld (n := "Under") (T.cls 55) (T.noat 60) (vl_slot (pv 0))) (vx_var (pv 3))) (vb_of (vx_fld (n := "Under") (T.cls 55) (T.noat 58) (vl_slot (pv 0)))) (nomark _)))) (fun _ _ _ _ _ => VX.can (vx_var (pv 3)))))
      (vss_cons (vs_if (vt_cmp (oNe hr.rm.units) (vx_var (pv 2)) (vb_of (vx_of (vn_lst va_nil))) (nomark _)) (vss_one (vs_ret (vx_call (v_first_least T) (hr.mono (by decide)) (T.g 6) (fun σ => passAt (takes_of rfl rfl rfl rfl) σ) (vr_cons (vl_val (vx_fld (n := "Under") (T.cls 55) (T.noat 60) (vl_slot (pv 0)))) (vr_cons (vl_val (vx_var (pv 2))) vr_nil))))) vss_nil)
      (vss_cons (vs_fld (n := "Under") (T.cls 55) (T.noat 60) (vl_slot (pv 0)) (vx_op oRepT (vx_tup (va_cons (vx_int pe_int) va_nil)) (vb_of (vx_fld (n := "Under") (T.cls 55) (T.noat 57) (vl_slot (pv 0))))) (fun h1 h2 => ps_fld h1 h2 rfl))
      (vss_cons (vs_fldaug (n := "Under") (T.cls 55) (T.noat 62) (vl_slot (pv 0)) (vx_int pe_int) (fun h1 h2 => ps_fldaug h1 h2 in_add))
      (vss_cons (vs_if (vt_cmp oEqI (vx_ix iSeq (vx_var (pv 1)) (vx_fld (n := "Under") (T.cls 55) (T.noat 59) (vl_slot (pv 0)))) (vb_of (vx_b1 (cMinV rfl) (vb_of (vx_var (pv 1))) (fun h1 h2 => pe_callB h1 (by rfl) (T.b 76) (by decide +kernel) h2))) (nomark _)) (vss_one (vs_ret (vx_fld (n := "Under") (T.cls 55) (T.noat 59) (vl_slot (pv 0))))) vss_nil)
      (vss_one (vs_ret (vx_call (v_first_least T) (hr.mono (by decide)) (T.g 6) (fun σ => passAt (takes_of rfl rfl rfl rfl) σ) (vr_cons (vl_val (vx_var (pv 1))) (vr_cons (vl_val (vx_of (vn_listRg (T.b 77) (T.b 74) (vx_fld (n := "Under") (T.cls 55) (T.noat 57) (vl_slot (pv 0)))))) vr_nil))))))))))), fun ds cs Q Er hl h => ?_⟩
  clear hl
  obtain ⟨n, t, s, r, rfl, hk, hsl, hrl, hn, k⟩ := h
  unfold undD at k ⊢
  walk_at "vrd"
  rw [ixI (show s.kind < s.sums.length by omega)]
  walk_at "vrd"
  unfold chK chS at k
  split
  · rename_i c
    rw [if_pos c, if_pos c] at k
    exact k
  rename_i c
  rw [if_neg c, if_neg c] at k
  refine ⟨by omega, by omega, ?_⟩
  rw [rg0]
  refine r_mapFG (fun (i : Nat) => Dt.int i) (fun i => decide (UM.at0 s.sums i < t)) (fun (i : Nat) => Dt.int i) rfl (by rw [List.length_range]; omega) (fun i hi R N hR hN => ?_) ?_
  · rw [List.mem_range] at hi
    walk_at "vrd"
    rw [ixI (show i < s.sums.length by omega)]
    walk_at "vrd"
    split
    · rename_i c
      exact hR (decide_eq_true c)
    · rename_i c
      exact hN (decide_eq_false c)
  rw [show (List.range n).filter (fun i => decide (UM.at0 s.sums i < t)) = UM.low t n s.sums from rfl]
  walk_at "vrd"
  have hpl : Dv.plain (.list ((UM.low t n s.sums).map fun (i : Nat) => Dt.int i)) = true := plain_l (by rw [List.all_map]; exact List.all_eq_true.mpr fun _ _ => rfl)
  rw [ne_l0 hpl]
  walk_at "vrd"
  have hlow : ∀ i ∈ UM.low t n s.sums, i < n := fun i hi => (UM.mem_low.mp hi).1
  have hll : (UM.low t n s.sums).length ≤ 1000 := by
    have : (UM.low t n s.sums).length ≤ (List.range n).length := List.length_filter_le _ _
    rw [List.length_range] at this
    omega
  cases hz : UM.low t n s.sums with
  | nil =>
    rw [hz] at k
    walk_at "vrd"
    rw [rep_t ⟨by omega, by omega, by decide⟩]
    walk_at "vrd"
    rw [ixI (show s.kind < r.length by omega)]
    walk_at "vrd"
    rw [minT_i (ns := r) (by intro e; rw [e] at hrl; simp at hrl; omega)]
    walk_at "vrd"
    have e : (List.replicate n [Dt.int 0]).flatten = (List.replicate n (0 : Int)).map .int := by simp
    rw [e]
    split
    · rename_i c2
      simp only [List.isEmpty_nil, ↓reduceIte, c2] at k
      exact k
    · rename_i c2
      simp only [List.isEmpty_nil, ↓reduceIte, c2] at k
      refine ⟨⟨by omega, by omega⟩, ?_⟩
      walk_at "call"
      refine ⟨r, List.range n, rfl, by simp; omega, fun p hp => by rw [List.mem_range] at hp; omega, by rw [List.length_range]; omega, ?_⟩
      walk_at "vrd"
      exact k
  | cons z zs =>
    rw [← hz]
    rw [if_neg (by rw [hz]; simp), if_neg (by rw [hz]; simp)] at k
    rw [if_neg (by rw [hz]; simp)]
    walk_at "call"
    refine ⟨s.sums, UM.low t n s.sums, rfl, by rw [hz]; simp, fun p hp => by have := hlow p hp; omega, hll, ?_⟩
    walk_at "vrd"
    exact k
theorem rowB_ints {r : List Int} (h : ∀ i ∈ r, 1 ≤ i ∧ i ≤ 1000000) : rowB (.tuple (r.map .int)) r.length = true := by
  show (decide _ && _) = true
  rw [List.length_map, decide_eq_true rfl, List.all_map]
  refine List.all_eq_true.mpr fun i m => ?_
  show isBt (.int i) 1 1000000 = true
  rw [bt_range]
  exact decide_eq_true (h i m)
theorem ch_step {t : Int} {n : Nat} {s : UM.St} {r : List Int} : chS t n ⟨s.kind, UM.grown s r, s.paid, s.phases⟩ = ⟨s.kind, (UM.step t n s r).sums, s.paid, (UM.step t n s r).phases⟩ := by
  unfold chS UM.step UM.ending
  dsimp only
  by_cases h1 : UM.at0 (UM.grown s r) s.kind < t
  · simp [h1]
  · cases h2 : (UM.low t n (UM.grown s r)).isEmpty <;> simp [h1]
def S_und_step : Fs := pS fun ds P E => ∃ n t s x, ds = [undD n t s, x] ∧ Sd x ∧ UM.Ok t n s ∧ n ≤ 5 ∧ (∀ r : List Int, x = .tuple (r.map .int) → r.length = n → (∀ i ∈ r, 1 ≤ i ∧ i ≤ 1000000) → P (.int (UM.step t n s r).kind) [undD n t (UM.step t n s r)]) ∧ (rowB x n = false → E "NoCosts" [undD n t s])
theorem sc_Under_step : FnScope ["self", "row", "one", "other", "kind"] ["self", "row"] (defScope sUnder_step) := ⟨rfl, rfl, rfl, by decide +kernel, rfl, by decide +kernel, by decide +kernel⟩
theorem v_Under_step (T : Tw fa fn ts xb w K mg) : GFn P w K mg base 4 (He.fAd K dUnder_step.at_) ["self", "row"] (spV K TL 2 [0] S_und_step) := by
  obtain ⟨fd, F⟩ := T.says.def_ 26 (d := dUnder_step) rfl
  refine okV (fun i => ([0] : List Nat).contains i) [0] _ F sc_Under_step (fun _ _ _ _ _ _ us hl => match us, hl with | [_, _], _ => rfl) rfl rfl (by decide) ⟨_, fun cdv hcdv A outer s H E hr => have hu := hu_of hr.rm; have hu65 := hu65_of hr.rm; (vss_cons (vs_if (vt_not (vt_val (vx_meth (n := "Under") (v_Under_is_row T) (hr.mono (by decide)) (T.cls 55) (T.meth 63) (fun σ => passAt (takes_of rfl rfl rfl rfl) σ) (vl_slot (pv 0)) (vr_cons (vl_val (vx_var (pv 1))) vr_nil) (fun h1 h2 => gm (E := WE _) (v_Under_is_row T) (hr.mono (by decide)) (T.cls 55) (T.meth 63) (fun σ => passAt (takes_of rfl rfl rfl rfl) σ) h1 h2)))) (vss_one (vs_raiseE rfl (takes_of rfl rfl rfl rfl) (T.exc 51) (T.g 32) rfl)) vss_nil)
      (vss_cons (vs_fld (n := "Under") (T.cls 55) (T.noat 60) (vl_slot (pv 0)) (vx_b1 cTupV (vb_of (vx_of (vn_lc (vs := [2, 3]) (g := gTup K 2 (tgNms [2, 3])) (vi_zip (t1 := true) (t2 := true) (va_cons (vx_fld (n := "Under") (T.cls 55) (T.noat 60) (vl_slot (pv 0))) (va_cons (vx_var (pv 1)) va_nil)) (fun h => pi_zipM true true K rfl (T.b 84) h)) (dgw_tup (is := [2, 3]) (show ∀ i, i ∈ ([2, 3] : List Nat) → i ∈ ([2, 3] : List Nat) ∧ ([0] : List Nat).contains i = false ∧ ([0] : List Nat).contains i = false by decide)) rfl (fun {wi} hi => pe_lc (own := [("one", 2), ("other", 3)]) (g := gTup K 2 (tgNms [2, 3])) rfl sc_Under_step.nd hi (blkOk_by (N := ["self", "row", "one", "other", "kind"]) (sc := defScope sUnder_step) (by decide +kernel)) (fun _ _ _ _ _ => (gtupK K (n := 2) rfl (pgs_cons (pg_name (i := 2) sc_Under_step.nd rfl (Or.inl rfl)) (pgs_cons (pg_name (i := 3) sc_Under_step.nd rfl (Or.inl rfl)) pgs_nil)))) (fun _ _ _ _ _ => vts_nil) (fun _ _ _ _ _ => VX.can (vx_op oAdd (vx_var (pv 2)) (vb_of (vx_var (pv 3))))))))) (fun h1 h2 => pe_callTy h1 (by rfl) (T.b 83) (by decide +kernel) h2)) (fun h1 h2 => ps_fld h1 h2 rfl))
      (vss_cons (vs_set (i := 4) (vx_meth (n := "Under") (v_Under_chosen T) (hr.mono (by decide)) (T.cls 55) (T.meth 64) (fun σ => passAt (takes_of rfl rfl rfl rfl) σ) (vl_slot (pv 0)) (vr_cons (vl_val (vx_var (pv 1))) vr_nil) (fun h1 h2 => gm (E := WE _) (v_Under_chosen T) (hr.mono (by decide)) (T.cls 55) (T.meth 64) (fun σ => passAt (takes_of rfl rfl rfl rfl) σ) h1 h2)) (fun h => ps_set (i := 4) sc_Under_step.nd rfl (Or.inl rfl) h))
      (vss_cons (vs_fldaug (n := "Under") (T.cls 55) (T.noat 61) (vl_slot (pv 0)) (vx_op oAdd (vx_ix iSeq (vx_var (pv 1)) (vx_var (pv 4))) (vb_of (vx_if (vt_cmp oEqI (vx_var (pv 4)) (vb_of (vx_fld (n := "Under") (T.cls 55) (T.noat 59) (vl_slot (pv 0)))) (nomark _)) (vx_int pe_int) (vx_fld (n := "Under") (T.cls 55) (T.noat 58) (vl_slot (pv 0)))))) (fun h1 h2 => ps_fldaug h1 h2 in_add))
      (vss_cons (vs_fld (n := "Under") (T.cls 55) (T.noat 59) (vl_slot (pv 0)) (vx_var (pv 4)) (fun h1 h2 => ps_fld h1 h2 rfl))
      (vss_one (vs_ret (vx_var (pv 4))))))))), fun ds cs Q Er hl h => ?_⟩
  clear hl
  obtain ⟨n, t, s, x, rfl, hp, ok, hn, k, ke⟩ := h
  obtain ⟨hk, hsl, ha⟩ := ok
  walk_at "vrd"
  rw [show undD n t s = .ins "Under" [("many", .int n), ("toll", .int t), ("kind", .int s.kind), ("sums", .tuple (s.sums.map .int)), ("paid", .int s.paid), ("phases", .int s.phases)] from rfl]
  walk_at "vrd"
  walk_at "call"
  refine ⟨n, t, s, x, rfl, hp, ?_⟩
  walk_at "vrd"
  cases e : rowB x n with
  | false =>
    walk_at "vrd"
    exact ke e
  | true =>
    obtain ⟨r, rfl, hrl, hr⟩ := row_int e
    have hrl : r.length = n := by omega
    have k := k r rfl hrl hr
    rw [show undD n t s = .ins "Under" [("many", .int n), ("toll", .int t), ("kind", .int s.kind), ("sums", .tuple (s.sums.map .int)), ("paid", .int s.paid), ("phases", .int s.phases)] from rfl]
    walk_at "vrd"
    refine ⟨by rw [List.length_map, List.length_map]; omega, ?_⟩
    rw [zpI]
    refine r_mapG (fun p : Int × Int => .tuple [.int p.1, .int p.2]) (fun p => .int (p.1 + p.2)) rfl (by rw [List.length_zip]; omega) (fun p hp R N hR => ?_) ?_
    · walk_at "vrd"
      exact hR
    have hkk : UM.nextKind t n s r < n := UM.nextKind_lt ⟨hk, hsl, ha⟩
    rw [zipAdd]
    walk_at "vrd"
    rw [show List.zipWith (· + ·) s.sums r = UM.grown s r from rfl]
    walk_at "call"
    refine ⟨n, t, ⟨s.kind, UM.grown s r, s.paid, s.phases⟩, r, rfl, hk, by unfold UM.grown; rw [List.length_zipWith]; omega, hrl, hn, ?_⟩
    rw [show chK t n ⟨s.kind, UM.grown s r, s.paid, s.phases⟩ r = UM.nextKind t n s r from rfl, ch_step]
    show kBack _ _ _ _ [.ins "Under" [("many", .int n), ("toll", .int t), ("kind", .int s.kind), ("sums", .tuple ((UM.step t n s r).sums.map .int)), ("paid", .int s.paid), ("phases", .int (UM.step t n s r).phases)]] _
    walk_at "vrd"
    rw [ixI (show UM.nextKind t n s r < r.length by omega)]
    walk_at "vrd"
    have fin : ∀ q : Int, q = UM.turn t s.kind (UM.nextKind t n s r) → Q (.int (UM.nextKind t n s r)) [.ins "Under" [("many", .int n), ("toll", .int t), ("kind", .int (UM.nextKind t n s r)), ("sums", .tuple ((UM.step t n s r).sums.map .int)), ("paid", .int (s.paid + (UM.at0 r (UM.nextKind t n s r) + q))), ("phases", .int (UM.step t n s r).phases)]] cs := by
      rintro q rfl
      exact k
    unfold UM.turn at fin
    split
    · rename_i c
      exact fin 0 (by rw [if_pos (by omega)])
    · rename_i c
      exact fin t (by rw [if_neg (by omega)])
end
end VC
/-! VUnd2: under, phases_cost, by value. -/
namespace VC
open PySem PySem.Spec PyProof.Rows L2 Ts Dv K87
local macro_rules | `(tactic| walk_at "vrh") => `(tactic| simp (config := {decide := true}) only [Bool.or_eq_true, Option.getD_some, Option.getD_none, decide_eq_true_eq, Ts.isaD, Ts.kindD, Ts.isaK, Bool.not_true, Bool.not_false, Bool.or_self, Bool.and_self, List.map_cons, List.map_nil, List.length_cons, List.length_nil, List.replicate, List.cons_append, List.nil_append, Nat.reduceSub, Nat.reduceAdd, List.set_cons_zero, List.set_cons_succ, ↓reduceIte, Bool.false_eq_true, reduceCtorEq, true_and, and_true, List.append_nil, Option.isSome_some, Nat.reduceLeDiff, Bool.and_true, Bool.true_and, Bool.or_true, Bool.true_or, decide_true, Nat.zero_add, Int.reduceNeg, Int.reducePow, Int.reduceLE, Int.reduceLT, Int.reduceAdd, Int.reduceSub, Int.reduceMul, Int.toNat_natCast, Option.map_some, Option.bind_some, beq_self_eq_true, Dv.bO_some, Dv.bO_none, Dv.ite_dec, Dv.gS_0, Dv.gS_n, Dv.gS_s, Dv.v_slot, Dv.v_val, Dv.v_cell, Dv.set_mk, Dv.cell_mk, Dv.pa_slot, Dv.pa_cell, Dv.refOf, Dv.boOf, Dv.intOf, Dv.tupOf, Dv.lstOf, Dv.dicOf_d, Dv.insOf_same, Dv.e_fl, Dv.e_kK, Dv.plc, Dv.e_var, Dv.e_c, Dv.e_cell, Dv.e_kCell, Dv.e_L, Dv.e_kL, Dv.e_Ls, Dv.e_Lc, Dv.e_kLc1, Dv.e_kLc2, Dv.e_Rd, Dv.e_kRd, Dv.e_Op, Dv.e_kOp1, Dv.e_kOp2, Dv.e_OpL, Dv.e_kOpL1, Dv.e_kOpL2, Dv.e_kOpL3, Dv.e_Tst, Dv.e_kTst, Dv.e_kTst2, Dv.e_Un, Dv.e_kUn, Dv.e_Ch, Dv.e_kCh1, Dv.e_kCh2, Dv.e_kCh3, Dv.e_kCh4, Dv.e_kCh5, Dv.e_And, Dv.e_kAnd, Dv.e_Or, Dv.e_kOr, Dv.e_Not, Dv.e_kNot, Dv.e_AndV, Dv.e_kAndV, Dv.e_kAndV2, Dv.e_OrV, Dv.e_kOrV, Dv.e_kOrV2, Dv.e_NotV, Dv.e_kNotV, Dv.e_kNotV2, Dv.e_IfV, Dv.e_kIfV, Dv.e_nil, Dv.e_Cons, Dv.e_kCons1, Dv.e_kCons2, Dv.e_Tup, Dv.e_kTup, Dv.e_Lst, Dv.e_kLst, Dv.e_Ca, Dv.e_kCa, Dv.e_NewL, Dv.e_kNewL, Dv.e_kNewL2, Dv.e_Seq, Dv.e_kSeqn, Dv.e_kSeqrt, Dv.e_kSeqbk, Dv.e_kSeqct, Dv.e_kSeqer, Dv.e_Next, Dv.e_Brk, Dv.e_Cnt, Dv.e_Drop, Dv.e_kDrop, Dv.e_Ret, Dv.e_RetN, Dv.e_RetO, Dv.e_kRetO, Dv.e_RetC, Dv.e_kRetC, Dv.e_IfS, Dv.e_kIfS, Dv.e_gNm, Dv.e_gNms0, Dv.e_gNms1, Dv.e_gTpN, Dv.e_gTpL, Dv.e_kTpN, Dv.e_Asg, Dv.e_kAsg, Dv.e_Set, Dv.e_kSet, Dv.e_Take, Dv.e_kTake, Dv.e_kTake2, Dv.e_kTake3, Dv.e_For, Dv.e_kWh, Dv.e_Call, Dv.e_kCall, Dv.e_NilR, Dv.e_ConsR, Dv.e_kConsR1, Dv.e_kConsR2, Dv.e_kBack, Dv.e_putP0, Dv.e_putP1, Dv.e_putP2, Dv.e_delP0, Dv.e_delP1, Dv.e_delP2, Dv.e_Yes, Dv.e_ItF, Dv.e_kItF, Dv.e_ItT, Dv.e_kItT, Dv.e_ItL, Dv.e_kItL, Dv.wipe_0, Dv.wipe_1, Dv.e_kME, Dv.e_kMB, Dv.e_kMT, Dv.e_LcS, Dv.e_Rg1, Dv.e_kRg1, Dv.e_Rg2, Dv.e_kRg2, Dv.e_EnL, Dv.e_kEnL, Dv.e_EnT, Dv.e_kEnT, Dv.e_kEn2, Dv.e_Zp, Dv.e_kZp, Dv.e_kZp2, Dv.sq_t, Dv.sq_l, Dv.e_No, Dv.e_Pt, Dv.e_kPt, Dv.e_kPt2, Dv.e_SlT, Dv.e_kSlT1, Dv.e_kSlT2, Dv.e_kSlT3, Dv.e_kSlT4, Dv.e_SlL, Dv.e_kSlL1, Dv.e_kSlL2, Dv.e_kSlL3, Dv.e_kSlL4, Dv.e_Prs0, Dv.e_Prs1, Dv.e_kPr1, Dv.e_kPr2, Dv.e_kPr3, Dv.e_Di, Dv.e_kDi, Dv.e_kDi2, Dv.e_ks0, Dv.e_ks1, Dv.e_ks2, Dv.e_NewD, Dv.e_Mu, Dv.e_kMu1, Dv.e_kMu2, Dv.e_kMu3, Dv.e_kMu4, Dv.e_kMu5, Dv.e_PD, Dv.e_kPD1, Dv.e_kPD2, Dv.e_kPD3, Dv.e_kPD4, Dv.e_kPD5, Dv.e_iS, Option.bind_some, Option.map_some, Dv.e_AI, Dv.e_kAI1, Dv.e_kAI2, Dv.e_kAI3, Dv.e_AL, Dv.e_kAL1, Dv.e_kAL2, Dv.e_kAL3, Dv.e_kAL4, Dv.e_Raise, Dv.e_Fld, Dv.e_kFld, Dv.e_kFld2, Dv.e_SF, Dv.e_kSF1, Dv.e_kSF2, Dv.e_kSF3, Dv.e_Me, Dv.e_kMe, Dv.e_kMe1, Dv.e_kMe2, Dv.e_Mk, Dv.e_kMk, Dv.e_kMk2, Dv.e_kMk3, Dv.e_vrt, Dv.e_vnx, Dv.e_ver, Dv.e_kOut, Dv.e_outs0, Dv.e_outs2, Dv.plain_int, Dv.plain_bool, Dv.plain_none, Dv.plain_str, Dv.flat_none, Dv.flat_bool, Dv.flat_int, Dv.flat_str, Dv.plain_l, Dv.plain_t, Dv.eq_ss, Dv.eq_ii, Dv.eq_si, Dv.eq_sn, Dv.eq_sb, Dv.eq_st, Dv.eq_sl, Dv.mem_nil, Dv.mem_cons, Dv.gIn_l, Dv.gIn_t, Dv.gNi_l, Dv.gNi_t, List.all_cons, List.all_nil, Bool.or_false, Bool.false_or, Dv.gDiv_int, Dv.gMod_int, Dv.gMul_int, Dv.ite_or, Dv.gI_int, Dv.divB, Dv.modB, Dv.mulB, Dv.gAdd_i, Dv.gSub_i, Dv.gLt_i, Dv.gLe_i, Dv.gGt_i, Dv.gGe_i, Dv.gNeg_i, Dv.gEqI_i, Dv.gNeI_i, Dv.gEqS_s, Dv.gNeS_s, Dv.gMax2_i, Dv.gMin2_i, Dv.gInt_b, Dv.gInt_i, Dv.len_l, Dv.len_t, Dv.len_f, Dv.not_dec, Dv.st0, Dv.isTy, Dv.strOk_of, Dv.flat_of, Dv.e_ListRg, Dv.e_kListRg, Dv.e_SortedSet, Dv.e_kSortedSet, Dv.gIsN_e, Dv.gNotN_e, Dv.isN_non, Dv.isN_bl, Dv.isN_int, Dv.isN_str, Dv.isN_l, Dv.isN_t, Dv.isN_d, Dv.isN_e, Dv.isN_r, Dv.isN_i, Dv.cat_l, Dv.cat_t, Dv.cnt_l, Dv.cntD_nil, Dv.cntD_cons, Dv.idx_l, Dv.ixD_nil, Dv.ixD_cons, Dv.eq_bb, Dv.ix_n, Dv.ixT_n, Dv.ix_i, Dv.ixT_i, Dv.ix_m1, Dv.ixT_m1, Dv.tup_l, Dv.tup_t, Dv.e_FA, Dv.e_kFA1, Dv.e_kFA1', Dv.e_kFA2, Dv.e_kFA3, Dv.e_kFA4, Dv.e_kFA5, Dv.cput_same, Dv.cput_cput, Dv.items_t, Dv.items_l, Dv.e_SI, Dv.e_kSI0, Dv.e_kSI1, Dv.e_kSI2, Dv.e_kSI3, Dv.e_kSI4, Dv.e_kSI5, Dv.fget_nil, Dv.fget_cons, Dv.fput_nil, Dv.fput_cons, Dv.all_b, Dv.all_m, Dv.sum_i, List.getElem?_cons_zero, List.getElem?_cons_succ, Int.ofNat_eq_natCast, Int.cast_ofNat_Int, Int.reduceToNat, Dv.e_Bm, Dv.e_kBm1, Dv.e_kBm1', Dv.e_kBm2, Dv.e_kBm3, Dv.isRd_l, Dv.isRd_s, Dv.e_Try, Dv.e_trnx, Dv.e_trrt, Dv.e_trbk, Dv.e_trct, Dv.e_trer, Dv.e_kTr, Dv.lkB_nil, Dv.lkB_cons, Dv.isEr_e, Dv.e_Lam, Dv.e_kLam, Dv.e_wipe0, Dv.e_wipe1, Dv.e_Act, Dv.e_kAct, Dv.e_kActE, Dv.e_lamS, Dv.e_kLs, Dv.e_kLsE, Dv.gKin_s, Dv.gKix_s, Dv.litD_t, Dv.litD_i, Dv.litD_n, Dv.isa_i, Dv.isa_s, Dv.isa_b, Dv.isa_n, Dv.isa_t, Dv.isa_l, Dv.isa_d, Dv.isa_dt, Dv.e_GO, Dv.e_GO1, Dv.e_GO2, Dv.e_GO3, Dv.e_GO4, Dv.e_GO5, Dv.kOf_str, Dv.kOf_int, Dv.lk_cons, Dv.lk_nil, Dv.e_Par, Dv.e_kPar, Dv.merge_nd, Dv.gDGet_d, Dv.gDIn_d, *])
local macro_rules | `(tactic| walk_at "vrd") => `(tactic| simp (config := {decide := true}) only [Bool.or_eq_true, Option.getD_some, Option.getD_none, decide_eq_true_eq, Ts.isaD, Ts.kindD, Ts.isaK, Bool.not_true, Bool.not_false, Bool.or_self, Bool.and_self, List.map_cons, List.map_nil, List.length_cons, List.length_nil, List.replicate, List.cons_append, List.nil_append, Nat.reduceSub, Nat.reduceAdd, List.set_cons_zero, List.set_cons_succ, ↓reduceIte, Bool.false_eq_true, reduceCtorEq, true_and, and_true, List.append_nil, Option.isSome_some, Nat.reduceLeDiff, Bool.and_true, Bool.true_and, Bool.or_true, Bool.true_or, decide_true, Nat.zero_add, Int.reduceNeg, Int.reducePow, Int.reduceLE, Int.reduceLT, Int.reduceAdd, Int.reduceSub, Int.reduceMul, Int.toNat_natCast, Option.map_some, Option.bind_some, beq_self_eq_true, Dv.bO_some, Dv.bO_none, Dv.ite_dec, Dv.gS_0, Dv.gS_n, Dv.gS_s, Dv.v_slot, Dv.v_val, Dv.v_cell, Dv.set_mk, Dv.cell_mk, Dv.pa_slot, Dv.pa_cell, Dv.refOf, Dv.boOf, Dv.intOf, Dv.tupOf, Dv.lstOf, Dv.dicOf_d, Dv.insOf_same, Dv.e_fl, Dv.e_kK, Dv.plc, Dv.e_var, Dv.e_c, Dv.e_cell, Dv.e_kCell, Dv.e_L, Dv.e_kL, Dv.e_Ls, Dv.e_Lc, Dv.e_kLc1, Dv.e_kLc2, Dv.e_Rd, Dv.e_kRd, Dv.e_Op, Dv.e_kOp1, Dv.e_kOp2, Dv.e_OpL, Dv.e_kOpL1, Dv.e_kOpL2, Dv.e_kOpL3, Dv.e_Tst, Dv.e_kTst, Dv.e_kTst2, Dv.e_Un, Dv.e_kUn, Dv.e_Ch, Dv.e_kCh1, Dv.e_kCh2, Dv.e_kCh3, Dv.e_kCh4, Dv.e_kCh5, Dv.e_And, Dv.e_kAnd, Dv.e_Or, Dv.e_kOr, Dv.e_Not, Dv.e_kNot, Dv.e_AndV, Dv.e_kAndV, Dv.e_kAndV2, Dv.e_OrV, Dv.e_kOrV, Dv.e_kOrV2, Dv.e_NotV, Dv.e_kNotV, Dv.e_kNotV2, Dv.e_IfV, Dv.e_kIfV, Dv.e_nil, Dv.e_Cons, Dv.e_kCons1, Dv.e_kCons2, Dv.e_Tup, Dv.e_kTup, Dv.e_Lst, Dv.e_kLst, Dv.e_Ca, Dv.e_kCa, Dv.e_NewL, Dv.e_kNewL, Dv.e_kNewL2, Dv.e_Seq, Dv.e_kSeqn, Dv.e_kSeqrt, Dv.e_kSeqbk, Dv.e_kSeqct, Dv.e_kSeqer, Dv.e_Next, Dv.e_Brk, Dv.e_Cnt, Dv.e_Drop, Dv.e_kDrop, Dv.e_Ret, Dv.e_RetN, Dv.e_RetO, Dv.e_kRetO, Dv.e_RetC, Dv.e_kRetC, Dv.e_IfS, Dv.e_kIfS, Dv.e_gNm, Dv.e_gNms0, Dv.e_gNms1, Dv.e_gTpN, Dv.e_gTpL, Dv.e_kTpN, Dv.e_Asg, Dv.e_kAsg, Dv.e_Set, Dv.e_kSet, Dv.e_Take, Dv.e_kTake, Dv.e_kTake2, Dv.e_kTake3, Dv.e_For, Dv.e_kWh, Dv.e_Call, Dv.e_kCall, Dv.e_NilR, Dv.e_ConsR, Dv.e_kConsR1, Dv.e_kConsR2, Dv.e_kBack, Dv.e_putP0, Dv.e_putP1, Dv.e_putP2, Dv.e_delP0, Dv.e_delP1, Dv.e_delP2, Dv.e_Yes, Dv.e_ItF, Dv.e_kItF, Dv.e_ItT, Dv.e_kItT, Dv.e_ItL, Dv.e_kItL, Dv.wipe_0, Dv.wipe_1, Dv.e_kME, Dv.e_kMB, Dv.e_kMT, Dv.e_LcS, Dv.e_Rg1, Dv.e_kRg1, Dv.e_Rg2, Dv.e_kRg2, Dv.e_EnL, Dv.e_kEnL, Dv.e_EnT, Dv.e_kEnT, Dv.e_kEn2, Dv.e_Zp, Dv.e_kZp, Dv.e_kZp2, Dv.sq_t, Dv.sq_l, Dv.e_No, Dv.e_Pt, Dv.e_kPt, Dv.e_kPt2, Dv.e_SlT, Dv.e_kSlT1, Dv.e_kSlT2, Dv.e_kSlT3, Dv.e_kSlT4, Dv.e_SlL, Dv.e_kSlL1, Dv.e_kSlL2, Dv.e_kSlL3, Dv.e_kSlL4, Dv.e_Prs0, Dv.e_Prs1, Dv.e_kPr1, Dv.e_kPr2, Dv.e_kPr3, Dv.e_Di, Dv.e_kDi, Dv.e_kDi2, Dv.e_ks0, Dv.e_ks1, Dv.e_ks2, Dv.e_NewD, Dv.e_Mu, Dv.e_kMu1, Dv.e_kMu2, Dv.e_kMu3, Dv.e_kMu4, Dv.e_kMu5, Dv.e_PD, Dv.e_kPD1, Dv.e_kPD2, Dv.e_kPD3, Dv.e_kPD4, Dv.e_kPD5, Dv.e_iS, Option.bind_some, Option.map_some, Dv.e_AI, Dv.e_kAI1, Dv.e_kAI2, Dv.e_kAI3, Dv.e_AL, Dv.e_kAL1, Dv.e_kAL2, Dv.e_kAL3, Dv.e_kAL4, Dv.e_Raise, Dv.e_Fld, Dv.e_kFld, Dv.e_kFld2, Dv.e_SF, Dv.e_kSF1, Dv.e_kSF2, Dv.e_kSF3, Dv.e_Me, Dv.e_kMe, Dv.e_kMe1, Dv.e_kMe2, Dv.e_Mk, Dv.e_kMk, Dv.e_kMk2, Dv.e_kMk3, Dv.e_vrt, Dv.e_vnx, Dv.e_ver, Dv.e_kOut, Dv.e_outs0, Dv.e_outs2, Dv.plain_int, Dv.plain_bool, Dv.plain_none, Dv.plain_str, Dv.flat_none, Dv.flat_bool, Dv.flat_int, Dv.flat_str, Dv.plain_l, Dv.plain_t, Dv.eq_ss, Dv.eq_ii, Dv.eq_si, Dv.eq_sn, Dv.eq_sb, Dv.eq_st, Dv.eq_sl, Dv.mem_nil, Dv.mem_cons, Dv.gIn_l, Dv.gIn_t, Dv.gNi_l, Dv.gNi_t, List.all_cons, List.all_nil, Bool.or_false, Bool.false_or, Dv.gDiv_int, Dv.gMod_int, Dv.gMul_int, Dv.ite_or, Dv.gI_int, Dv.divB, Dv.modB, Dv.mulB, Dv.gAdd_i, Dv.gSub_i, Dv.gLt_i, Dv.gLe_i, Dv.gGt_i, Dv.gGe_i, Dv.gNeg_i, Dv.gEqI_i, Dv.gNeI_i, Dv.gEqS_s, Dv.gNeS_s, Dv.gMax2_i, Dv.gMin2_i, Dv.gInt_b, Dv.gInt_i, Dv.len_l, Dv.len_t, Dv.len_f, Dv.not_dec, Dv.st0, Dv.isTy, Dv.strOk_of, Dv.flat_of, Dv.e_ListRg, Dv.e_kListRg, Dv.e_SortedSet, Dv.e_kSortedSet, Dv.gIsN_e, Dv.gNotN_e, Dv.isN_non, Dv.isN_bl, Dv.isN_int, Dv.isN_str, Dv.isN_l, Dv.isN_t, Dv.isN_d, Dv.isN_e, Dv.isN_r, Dv.isN_i, Dv.cat_l, Dv.cat_t, Dv.cnt_l, Dv.cntD_nil, Dv.cntD_cons, Dv.idx_l, Dv.ixD_nil, Dv.ixD_cons, Dv.eq_bb, Dv.ix_n, Dv.ixT_n, Dv.ix_i, Dv.ixT_i, Dv.ix_m1, Dv.ixT_m1, Dv.tup_l, Dv.tup_t, Dv.e_FA, Dv.e_kFA1, Dv.e_kFA1', Dv.e_kFA2, Dv.e_kFA3, Dv.e_kFA4, Dv.e_kFA5, Dv.cput_same, Dv.cput_cput, Dv.items_t, Dv.items_l, Dv.e_SI, Dv.e_kSI0, Dv.e_kSI1, Dv.e_kSI2, Dv.e_kSI3, Dv.e_kSI4, Dv.e_kSI5, Dv.fget_nil, Dv.fget_cons, Dv.fput_nil, Dv.fput_cons, Dv.all_b, Dv.all_m, Dv.sum_i, List.getElem?_cons_zero, List.getElem?_cons_succ, Int.ofNat_eq_natCast, Int.cast_ofNat_Int, Int.reduceToNat, Dv.e_Bm, Dv.e_kBm1, Dv.e_kBm1', Dv.e_kBm2, Dv.e_kBm3, Dv.isRd_l, Dv.isRd_s, Dv.e_Try, Dv.e_trnx, Dv.e_trrt, Dv.e_trbk, Dv.e_trct, Dv.e_trer, Dv.e_kTr, Dv.lkB_nil, Dv.lkB_cons, Dv.isEr_e, Dv.e_Lam, Dv.e_kLam, Dv.e_wipe0, Dv.e_wipe1, Dv.e_Act, Dv.e_kAct, Dv.e_kActE, Dv.e_lamS, Dv.e_kLs, Dv.e_kLsE, Dv.gKin_s, Dv.gKix_s, Dv.litD_t, Dv.litD_i, Dv.litD_n, Dv.isa_i, Dv.isa_s, Dv.isa_b, Dv.isa_n, Dv.isa_t, Dv.isa_l, Dv.isa_d, Dv.isa_dt, Dv.e_GO, Dv.e_GO1, Dv.e_GO2, Dv.e_GO3, Dv.e_GO4, Dv.e_GO5, Dv.kOf_str, Dv.kOf_int, Dv.lk_cons, Dv.lk_nil, Dv.e_Par, Dv.e_kPar, Dv.merge_nd, Dv.gDGet_d, Dv.gDIn_d])
local macro_rules | `(tactic| walk_at "call") => `(tactic| refine Dv.r_call _ _ rfl rfl (by decide) rfl rfl ?_)

theorem eqvAll_ints : ∀ a b : List Int, PyData.eqvAll (a.map .int) (b.map .int) = decide (a = b)
  | [], [] => by simp [PyData.eqvAll]
  | [], _ :: _ => by simp [PyData.eqvAll]
  | _ :: _, [] => by simp [PyData.eqvAll]
  | x :: r, y :: q => by
    have ih := eqvAll_ints r q
    simp only [List.map_cons, PyData.eqvAll, PyData.eqv, ih]
    by_cases h : x = y <;> simp [h]
theorem eqL_ints {a b : List Int} : eqD (.list (a.map .int)) (.list (b.map .int)) = decide (a = b) := by
  show PyData.eqv (.list (Dt.pyL _)) (.list (Dt.pyL _)) = _
  rw [PyData.eqv, pyL_ints, pyL_ints, eqvAll_ints]
theorem eqT_ints {a b : List Int} : eqD (.tuple (a.map .int)) (.tuple (b.map .int)) = decide (a = b) := by
  show PyData.eqv (.tuple (Dt.pyL _)) (.tuple (Dt.pyL _)) = _
  rw [PyData.eqv, pyL_ints, pyL_ints, eqvAll_ints]
def undR (t : Int) (n : Nat) (rows : List (List Int)) : Dt := .tuple [.tuple ((UM.choice t n rows).map fun (p : Nat) => .int p), .int (UM.S t n rows rows.length).paid, .tuple ((UM.ends t n rows).map fun (p : Nat) => .int p)]
theorem undE {n : Nat} {t : Int} {s : UM.St} : undD n t s = .ins "Under" [("many", .int n), ("toll", .int t), ("kind", .int s.kind), ("sums", .tuple (s.sums.map .int)), ("paid", .int s.paid), ("phases", .int s.phases)] := rfl
def S_under : Fs := pS fun ds P E => ∃ x t, ds = [x, t] ∧ Sd x ∧ Sd t ∧ (∀ rows n toll, x = .tuple (rowsD rows) → t = .int toll → Rows rows n → (rows = [] → n = 1) → 1 ≤ toll → toll ≤ 1000 → P (undR toll n rows) []) ∧ ((costsB x && tollB t) = false → E "NoCosts" [])
theorem rowsD_get {rows : List (List Int)} {i : Nat} (h : i < rows.length) : (rowsD rows)[i]? = some (.tuple ((UM.row rows i).map .int)) := by
  unfold rowsD UM.row
  rw [List.getElem?_map, List.getElem?_eq_getElem h, List.getD_eq_getElem?_getD, List.getElem?_eq_getElem h]
  rfl
theorem rowsD_len {rows : List (List Int)} : (rowsD rows).length = rows.length := List.length_map _
theorem row_at {rows : List (List Int)} {n i : Nat} (hr : Rows rows n) (h : i < rows.length) : (UM.row rows i).length = n ∧ ∀ k ∈ UM.row rows i, 1 ≤ k ∧ k ≤ 1000000 :=
  hr.row _ (by unfold UM.row; rw [List.getD_eq_getElem?_getD, List.getElem?_eq_getElem h]; exact List.getElem_mem h)
theorem at0_mem {r : List Int} {k : Nat} (h : k < r.length) : UM.at0 r k ∈ r := by
  unfold UM.at0
  rw [List.getD_eq_getElem?_getD, List.getElem?_eq_getElem h]
  exact List.getElem_mem h
theorem good_of {rows : List (List Int)} {n : Nat} {toll : Int} (hr : Rows rows n) (h : 1 ≤ toll) : UM.Good toll n rows :=
  ⟨h, hr.n1, fun p hp => (row_at hr hp).1, fun p hp k hk => ((row_at hr hp).2 _ (at0_mem (by rw [(row_at hr hp).1]; exact hk))).1⟩
section
variable {P : Program} {w : World} {K : PySem.W.Frag} {mg : Str → Option Value} {base : Heap} {TL : Tbs}
theorem sc_under : FnScope ["costs", "toll", "chooser", "choice", "ends", "place", "row", "ahead"] ["costs", "toll"] (defScope sunder) := ⟨rfl, rfl, rfl, by decide +kernel, rfl, by decide +kernel, by decide +kernel⟩
theorem v_under (T : Tw fa fn ts xb w K mg) : GFn P w K mg base 7 (He.fAd K dunder.at_) ["costs", "toll"] (spV K TL 2 [] S_under) := by
  obtain ⟨fd, F⟩ := T.says.def_ 7 (d := dunder) rfl
  refine okV (fun i => ([2, 3, 4] : List Nat).contains i) [] _ F sc_under (fun _ _ _ _ _ _ us hl => match us, hl with | [_, _], _ => rfl) rfl rfl (by decide) ⟨_, fun cdv hcdv A outer s H E hr => have hu := hu_of hr.rm; have hu65 := hu65_of hr.rm; (vss_cons (vs_if (vt_w (vw_or (vt_not (vt_val (vx_call (v_is_costs T) (hr.mono (by decide)) (T.g 3) (fun σ => passAt (takes_of rfl rfl rfl rfl) σ) (vr_cons (vl_val (vx_var (pv 0))) vr_nil)))) (vw_or1 (vt_not (vt_val (vx_call (v_is_toll T) (hr.mono (by decide)) (T.g 4) (fun σ => passAt (takes_of rfl rfl rfl rfl) σ) (vr_cons (vl_val (vx_var (pv 1))) vr_nil))))))) (vss_one (vs_raiseE rfl (takes_of rfl rfl rfl rfl) (T.exc 51) (T.g 32) rfl)) vss_nil)
      (vss_cons (vs_setN (i := 2) (vn_make (n := "Under") (vr_cons (vl_val (vx_if (vt_cmp (oEq hr.rm.units) (vx_var (pv 0)) (vb_of (vx_tup va_nil)) (nomark _)) (vx_int pe_int) (vx_b1 cLenV (vb_of (vx_ix iSeq (vx_var (pv 0)) (vx_int pe_int))) (fun h1 h2 => pe_callB h1 (by rfl) (T.b 73) (by decide +kernel) h2)))) (vr_cons (vl_val (vx_var (pv 1))) vr_nil)) (fun h => gk (E := WE _) (T.mkr 56) (v_Under_init T) (hr.mono (by decide)) (T.g 36) (fun σ => passAt (takes_of rfl rfl rfl rfl) σ) h)) (fun h => ps_set (i := 2) sc_under.nd rfl (Or.inl rfl) h))
      (vss_cons (vs_setN (i := 3) (vn_lst va_nil) (fun h => ps_set (i := 3) sc_under.nd rfl (Or.inl rfl) h))
      (vss_cons (vs_setN (i := 4) (vn_lst va_nil) (fun h => ps_set (i := 4) sc_under.nd rfl (Or.inl rfl) h))
      (vss_cons (vs_for (vi_enT (vx_var (pv 0)) (fun h => pi_enumT rfl (T.b 70) h)) (vg_tup (is := [5, 6]) (gtupK K (n := 2) rfl (pgs_cons (pg_name (i := 5) sc_under.nd rfl (Or.inl rfl)) (pgs_cons (pg_name (i := 6) sc_under.nd rfl (Or.inl rfl)) pgs_nil))) (show ∀ i, i ∈ ([5, 6] : List Nat) → ([2, 3, 4] : List Nat).contains i = false ∧ ([] : List Nat).contains i = false by decide)) (vss_cons (vs_set (i := 7) (vx_fld (n := "Under") (T.cls 55) (T.noat 62) (vl_slot (pv 2))) (fun h => ps_set (i := 7) sc_under.nd rfl (Or.inl rfl) h))
      (vss_cons (vs_expr (vx_mu muAppend (vl_slot (pv 3)) (va_cons (vx_meth (n := "Under") (v_Under_step T) (hr.mono (by decide)) (T.cls 55) (T.meth 65) (fun σ => passAt (takes_of rfl rfl rfl rfl) σ) (vl_slot (pv 2)) (vr_cons (vl_val (vx_var (pv 6))) vr_nil) (fun h1 h2 => gm (E := WE _) (v_Under_step T) (hr.mono (by decide)) (T.cls 55) (T.meth 65) (fun σ => passAt (takes_of rfl rfl rfl rfl) σ) h1 h2)) va_nil) (fun h1 h2 h3 => pe_bm PySem.F.plainAttrs_list PySem.F.slot_list_append PySem.F.type_list_append h1 h2 h3)))
      (vss_one (vs_if (vt_cmp oGt (vx_fld (n := "Under") (T.cls 55) (T.noat 62) (vl_slot (pv 2))) (vb_of (vx_var (pv 7))) (nomark _)) (vss_one (vs_expr (vx_mu muAppend (vl_slot (pv 4)) (va_cons (vx_var (pv 5)) va_nil) (fun h1 h2 h3 => pe_bm PySem.F.plainAttrs_list PySem.F.slot_list_append PySem.F.type_list_append h1 h2 h3)))) vss_nil)))) (fun h1 h2 h3 => ps_for (passes_of rfl) rfl h1 h2 h3))
      (vss_one (vs_ret (vx_tup (va_cons (vx_b1 cTupV (vb_L (vl_slot (pv 3))) (fun h1 h2 => pe_callTy h1 (by rfl) (T.b 83) (by decide +kernel) h2)) (va_cons (vx_fld (n := "Under") (T.cls 55) (T.noat 61) (vl_slot (pv 2))) (va_cons (vx_b1 cTupV (vb_L (vl_slot (pv 4))) (fun h1 h2 => pe_callTy h1 (by rfl) (T.b 83) (by decide +kernel) h2)) va_nil))))))))))), fun ds cs Q Er hl h => ?_⟩
  clear hl
  obtain ⟨x, t, rfl, hx, ht, k, ke⟩ := h
  walk_at "vrd"
  walk_at "call"
  refine ⟨x, rfl, hx, ?_⟩
  walk_at "vrd"
  cases e1 : costsB x with
  | false =>
    walk_at "vrd"
    exact ke (by rw [e1]; rfl)
  | true =>
    walk_at "vrd"
    walk_at "call"
    refine ⟨t, rfl, ht, ?_⟩
    walk_at "vrd"
    cases e2 : tollB t with
    | false =>
      walk_at "vrd"
      exact ke (by rw [e1, e2]; rfl)
    | true =>
      obtain ⟨rows, n, rfl, hr, hr0⟩ := costs_int e1
      obtain ⟨toll, rfl, h1, h2⟩ := bt_int e2
      have k := k rows n toll rfl rfl hr hr0 h1 h2
      walk_at "vrd"
      rw [eq_t0 hx.plain]
      walk_at "vrd"
      have hn5 := hr.n5
      have hn1 := hr.n1
      generalize hV : kSeq (sSeq (sSet 3 _) _) (vends [] Q Er) = V
      have main : ∀ (m : Int), m = n → ∀ x, cs x = none → wCore 3 [0] S_und_init [.cell x, .val (.int m), .val (.int toll)] ⟨[some (.tuple (rowsD rows)), some (.int toll), none, none, none, none, none, none], cput cs x (some (.ins "Under" []))⟩ (kMk2 x (kSet 2 V)) (vends [] Q Er).er := by
        rintro m rfl x hx0
        refine Dv.r_call [.ins "Under" [], .int n, .int toll] [.inr x] (by simp only [valsOf, Dv.valOf, cput_same]) rfl (by simp) rfl rfl ?_
        refine ⟨_, _, rfl, Sd.int _, Sd.int _, fun n' toll' q1 q2 _ _ _ _ => ?_, fun q => ?_⟩
        case refine_2 =>
          exfalso
          have : isBt (.int n) 1 5 = true := by rw [bt_range]; exact decide_eq_true (by omega)
          rw [this, e2] at q
          cases q
        cases q2
        have : n' = n := by
          cases q1
          rfl
        subst this
        walk_at "vrd"
        rw [cput_id hx0]
        subst hV
        walk_at "vrd"
        have G : UM.Good toll n' rows := good_of hr h1
        have hm := hr.many
        refine r_for (fun i s => ∃ x5 x6 x7, s = ⟨[some (.tuple (rowsD rows)), some (.int toll), some (undD n' toll (UM.S toll n' rows i)), some (.list ((List.range i).map fun p => .int (UM.S toll n' rows (p + 1)).kind)), some (.list (((List.range i).filter (UM.ended toll n' rows)).map fun (p : Nat) => .int p)), x5, x6, x7], cs⟩) ⟨_, _, _, rfl⟩ ?_ ?_
        · rintro i s d hd ⟨x5, x6, x7, rfl⟩
          rw [enD_get] at hd
          have hi : i < rows.length := by
            rw [← rowsD_len (rows := rows)]
            cases z : (rowsD rows)[i]? with
            | none => rw [z] at hd; cases hd
            | some y => exact (List.getElem?_eq_some_iff.mp z).1
          rw [rowsD_get hi] at hd
          cases hd
          have ok := UM.S_ok G i (by omega)
          rw [undE]
          walk_at "vrd"
          walk_at "call"
          have hrow := row_at hr hi
          refine ⟨n', toll, UM.S toll n' rows i, _, rfl, Sd.ints (by omega), ok, hn5, fun r e hrl hri => ?_, fun q => ?_⟩
          case refine_2 =>
            have := rowB_ints hrow.2
            rw [hrow.1, q] at this
            cases this
          have er : UM.row rows i = r := ints_inj (by injection e)
          subst er
          show kBack _ _ _ _ [undD n' toll (UM.S toll n' rows (i + 1))] _
          rw [undE]
          walk_at "vrd"
          rw [app_l (by simp; omega)]
          walk_at "vrd"
          have hend : (UM.S toll n' rows (i + 1)).phases = if UM.ended toll n' rows i = true then (UM.S toll n' rows i).phases + 1 else (UM.S toll n' rows i).phases := rfl
          have e1 : (List.range (i + 1)).map (fun p => Dt.int (UM.S toll n' rows (p + 1)).kind) = (List.range i).map (fun p => Dt.int (UM.S toll n' rows (p + 1)).kind) ++ [Dt.int (UM.S toll n' rows (i + 1)).kind] := by
            rw [List.range_succ, List.map_append]
            rfl
          split
          · rename_i c
            have he : UM.ended toll n' rows i = true := by
              cases z : UM.ended toll n' rows i with
              | true => rfl
              | false =>
                rw [z, if_neg (by decide)] at hend
                omega
            rw [app_l (by
              have := List.length_filter_le (UM.ended toll n' rows) (List.range i)
              rw [List.length_map]
              rw [List.length_range] at this
              omega)]
            walk_at "vrd"
            refine ⟨some (.int i), some (.tuple ((UM.row rows i).map .int)), some (.int (UM.S toll n' rows i).phases), ?_⟩
            rw [e1, List.range_succ, List.filter_append, List.map_append, List.filter_cons, if_pos he]
            rfl
          · rename_i c
            have he : UM.ended toll n' rows i = false := by
              cases z : UM.ended toll n' rows i with
              | false => rfl
              | true =>
                rw [z, if_pos rfl] at hend
                omega
            refine ⟨some (.int i), some (.tuple ((UM.row rows i).map .int)), some (.int (UM.S toll n' rows i).phases), ?_⟩
            rw [e1, List.range_succ, List.filter_append, List.map_append, List.filter_cons, if_neg (by rw [he]; decide)]
            simp only [List.filter_nil, List.map_nil, List.append_nil]
            rfl
        · rintro s ⟨x5, x6, x7, rfl⟩
          rw [undE, show (enD (rowsD rows)).length = rows.length from by rw [enD_len, rowsD_len]]
          walk_at "vrd"
          refine dt_eq k ?_
          unfold undR UM.choice UM.ends
          rw [List.map_map]
          rfl
      split
      · rename_i c
        have : rows = [] := by
          cases rows with
          | nil => rfl
          | cons r rs => cases c
        exact main 1 (by rw [hr0 this]; rfl)
      · rename_i c
        cases rows with
        | nil => exact absurd rfl c
        | cons r rs =>
          rw [show (rowsD (r :: rs))[0]? = some (.tuple (r.map .int)) from rfl]
          walk_at "vrd"
          exact main _ (by rw [List.length_map, (hr.row r List.mem_cons_self).1])
def endsB (y : Dt) (m : Int) : Bool := match y with
  | .tuple ds => ds.all (fun d => isBt d 0 (m - 1)) && (match intsOf ds with
    | some ns => decide (ns = usort ns)
    | none => false)
  | _ => false
def phSum (toll : Int) (rows : List (List Int)) (ns : List Int) : Int := (ns.map fun e => max toll (lmin (UM.row rows e.toNat))).sum
def S_phc : Fs := pS fun ds P E => ∃ x t y, ds = [x, t, y] ∧ Sd x ∧ Sd t ∧ Sd y ∧ (∀ es, y = .tuple es → es.length ≤ 1000) ∧ ((costsB x && tollB t) = false → E "NoCosts" []) ∧
  (∀ rows n toll, x = .tuple (rowsD rows) → t = .int toll → Rows rows n → 1 ≤ toll → toll ≤ 1000 → (endsB y rows.length = false → E "NoChoice" []) ∧ ∀ ns : List Int, y = .tuple (ns.map .int) → (∀ i ∈ ns, 0 ≤ i ∧ i ≤ rows.length - 1) → ns = usort ns → P (.int (phSum toll rows ns)) [])
theorem sc_phases_cost : FnScope ["costs", "toll", "ends", "end"] ["costs", "toll", "ends"] (defScope sphases_cost) := ⟨rfl, rfl, rfl, by decide +kernel, rfl, by decide +kernel, by decide +kernel⟩
theorem v_phases_cost (T : Tw fa fn ts xb w K mg) : GFn P w K mg base 7 (He.fAd K dphases_cost.at_) ["costs", "toll", "ends"] (spV K TL 3 [] S_phc) := by
  obtain ⟨fd, F⟩ := T.says.def_ 8 (d := dphases_cost) rfl
  refine okV (fun i => ([] : List Nat).contains i) [] _ F sc_phases_cost (fun _ _ _ _ _ _ us hl => match us, hl with | [_, _, _], _ => rfl) rfl rfl (by decide) ⟨_, fun cdv hcdv A outer s H E hr => have hu := hu_of hr.rm; have hu65 := hu65_of hr.rm; (vss_cons (vs_if (vt_w (vw_or (vt_not (vt_val (vx_call (v_is_costs T) (hr.mono (by decide)) (T.g 3) (fun σ => passAt (takes_of rfl rfl rfl rfl) σ) (vr_cons (vl_val (vx_var (pv 0))) vr_nil)))) (vw_or1 (vt_not (vt_val (vx_call (v_is_toll T) (hr.mono (by decide)) (T.g 4) (fun σ => passAt (takes_of rfl rfl rfl rfl) σ) (vr_cons (vl_val (vx_var (pv 1))) vr_nil))))))) (vss_one (vs_raiseE rfl (takes_of rfl rfl rfl rfl) (T.exc 51) (T.g 32) rfl)) vss_nil)
      (vss_cons (vs_if (vt_w (vw_or (vt_not (vt_val (vx_isa (T := "tuple") (by decide +kernel) (T.b 72) (T.b 83) (by decide +kernel) (vb_of (vx_var (pv 2)))))) (vw_or1 (vt_not (vt_val (vx_b1 (cAllV rfl) (vb_of (vx_of (vn_lc (vs := [3]) (g := gName 3) (vi_tup (vx_var (pv 2)) (fun h => piT K h)) (dgw_name (by decide) rfl rfl) rfl (fun {wi} hi => pe_lc (own := [("end", 3)]) (g := gName 3) rfl sc_phases_cost.nd hi (blkOk_by (N := ["costs", "toll", "ends", "end"]) (sc := defScope sphases_cost) (by decide +kernel)) (fun _ _ _ _ _ => pg_name (i := 3) sc_phases_cost.nd rfl (Or.inl rfl)) (fun _ _ _ _ _ => vts_nil) (fun _ _ _ _ _ => VX.can (vx_call (v_is_whole_in T) (hr.mono (by decide)) (T.g 5) pn (vr_cons (vl_val (vx_var (pv 3))) (vr_cons (vl_val (vx_int pe_int)) (vr_cons (vl_val (vx_op oSub (vx_b1 cLenV (vb_of (vx_var (pv 0))) (fun h1 h2 => pe_callB h1 (by rfl) (T.b 73) (by decide +kernel) h2)) (vb_of (vx_int pe_int)))) vr_nil))))))))) (fun h1 h2 => pe_callB h1 (by rfl) (T.b 68) (by decide +kernel) h2))))))) (vss_one (vs_raiseE rfl (takes_of rfl rfl rfl rfl) (T.exc 52) (T.g 33) rfl)) vss_nil)
      (vss_cons (vs_if (vt_cmp (oNe hr.rm.units) (vx_of (vn_b1 cListV (vb_of (vx_var (pv 2))) (fun h1 h2 => pe_callTy h1 (by rfl) (T.b 74) (by decide +kernel) h2))) (vb_of (vx_of (vn_sortedSet (T.b 80) (T.b 79) (vx_var (pv 2))))) (nomark _)) (vss_one (vs_raiseE rfl (takes_of rfl rfl rfl rfl) (T.exc 52) (T.g 33) rfl)) vss_nil)
      (vss_one (vs_ret (vx_b1 (cSumV rfl) (vb_of (vx_of (vn_lc (vs := [3]) (g := gName 3) (vi_tup (vx_var (pv 2)) (fun h => piT K h)) (dgw_name (by decide) rfl rfl) rfl (fun {wi} hi => pe_lc (own := [("end", 3)]) (g := gName 3) rfl sc_phases_cost.nd hi (blkOk_by (N := ["costs", "toll", "ends", "end"]) (sc := defScope sphases_cost) (by decide +kernel)) (fun _ _ _ _ _ => pg_name (i := 3) sc_phases_cost.nd rfl (Or.inl rfl)) (fun _ _ _ _ _ => vts_nil) (fun _ _ _ _ _ => VX.can (vx_ba (cMax2V rfl) (va_cons (vx_var (pv 1)) (va_cons (vx_b1 (cMinV rfl) (vb_of (vx_ix iSeq (vx_var (pv 0)) (vx_var (pv 3)))) (fun h1 h2 => pe_callB h1 (by rfl) (T.b 76) (by decide +kernel) h2)) va_nil)) (fun h1 h2 => pe_callB h1 (by rfl) (T.b 75) (by decide +kernel) h2))))))) (fun h1 h2 => pe_callB h1 (by rfl) (T.b 82) (by decide +kernel) h2))))))), fun ds cs Q Er hl h => ?_⟩
  clear hl
  obtain ⟨x, t, y, rfl, hx, ht, hy, hyl, ke, k⟩ := h
  walk_at "vrd"
  walk_at "call"
  refine ⟨x, rfl, hx, ?_⟩
  walk_at "vrd"
  cases e1 : costsB x with
  | false =>
    walk_at "vrd"
    exact ke (by rw [e1]; rfl)
  | true =>
    walk_at "vrd"
    walk_at "call"
    refine ⟨t, rfl, ht, ?_⟩
    walk_at "vrd"
    cases e2 : tollB t with
    | false =>
      walk_at "vrd"
      exact ke (by rw [e1, e2]; rfl)
    | true =>
      obtain ⟨rows, n, rfl, hr, _⟩ := costs_int e1
      obtain ⟨toll, rfl, h1, h2⟩ := bt_int e2
      obtain ⟨kn, kv⟩ := k rows n toll rfl rfl hr h1 h2
      clear k
      walk_at "vrd"
      have hyt := hy.ty
      cases y <;> first | (cases hyt; done) | skip
      all_goals walk_at "vrd"
      all_goals try exact kn rfl
      rename_i ds
      obtain ⟨hlen, hps⟩ := hy.tup_in
      have hm := hr.many
      have hyl := hyl ds rfl
      refine r_mapT (fun d => .bool (isBt d 0 (rows.length - 1))) rfl (by omega) (fun d hd R N hR => ?_) ?_
      · walk_at "vrd"
        walk_at "call"
        refine ⟨d, _, _, rfl, hps d hd, ?_⟩
        rw [rowsD_len]
        walk_at "vrd"
        exact hR
      walk_at "vrd"
      cases e3 : ds.all fun d => isBt d 0 (rows.length - 1) with
      | false =>
        walk_at "vrd"
        exact kn (by show (_ && _) = false; rw [e3]; rfl)
      | true =>
        obtain ⟨ns, rfl, hns⟩ := bts_int e3
        have kv := kv ns rfl hns
        have kn : ns ≠ usort ns → Er "NoChoice" [] cs := fun h => kn (by
          show (_ && (match intsOf (ns.map .int) with | some ns => decide (ns = usort ns) | none => false)) = false
          rw [e3, intsOf_map]
          simpa using h)
        walk_at "vrd"
        rw [List.length_map] at hyl
        refine ⟨hyl, ?_⟩
        have hul : (usort ns).length ≤ 100000 := by
          have := usort_len ns
          omega
        rw [ne_p (Sd.intsL (by omega)).plain (Sd.intsL hul).plain, eqL_ints]
        walk_at "vrd"
        split
        · rename_i c
          refine r_mapG (fun i : Int => .int i) (fun e => .int (max toll (lmin (UM.row rows e.toNat)))) rfl (by omega) (fun e he R N hR => ?_) ?_
          · have h0 := hns e he
            have hi : e.toNat < rows.length := by omega
            have hrow := row_at hr hi
            have hn1 := hr.n1
            walk_at "vrd"
            rw [show gIx (.tuple (rowsD rows)) (.int e) = some (.tuple ((UM.row rows e.toNat).map .int)) from by rw [ixT_i h0.1]; exact rowsD_get hi]
            walk_at "vrd"
            rw [minT_i (ns := UM.row rows e.toNat) (by intro z; rw [z] at hrow; have := hrow.1; simp at this; omega)]
            walk_at "vrd"
            exact hR
          walk_at "vrd"
          rw [show ns.map (fun e => Dt.int (max toll (lmin (UM.row rows e.toNat)))) = (ns.map fun e => max toll (lmin (UM.row rows e.toNat))).map Dt.int from by rw [List.map_map]; rfl]
          walk_at "vrd"
          exact kv c
        · rename_i c
          exact kn c
end
end VC
/-! V87a: what the law k87 draws. -/
namespace VC
open PySem PySem.Spec PyProof.Rows L2 Ts Dv VD K87
local macro_rules | `(tactic| walk_at "vrh") => `(tactic| simp (config := {decide := true}) only [Bool.or_eq_true, Option.getD_some, Option.getD_none, decide_eq_true_eq, Ts.isaD, Ts.kindD, Ts.isaK, Bool.not_true, Bool.not_false, Bool.or_self, Bool.and_self, List.map_cons, List.map_nil, List.length_cons, List.length_nil, List.replicate, List.cons_append, List.nil_append, Nat.reduceSub, Nat.reduceAdd, List.set_cons_zero, List.set_cons_succ, ↓reduceIte, Bool.false_eq_true, reduceCtorEq, true_and, and_true, List.append_nil, Option.isSome_some, Nat.reduceLeDiff, Bool.and_true, Bool.true_and, Bool.or_true, Bool.true_or, decide_true, Nat.zero_add, Int.reduceNeg, Int.reducePow, Int.reduceLE, Int.reduceLT, Int.reduceAdd, Int.reduceSub, Int.reduceMul, Int.toNat_natCast, Option.map_some, Option.bind_some, beq_self_eq_true, Dv.bO_some, Dv.bO_none, Dv.ite_dec, Dv.gS_0, Dv.gS_n, Dv.gS_s, Dv.v_slot, Dv.v_val, Dv.v_cell, Dv.set_mk, Dv.cell_mk, Dv.pa_slot, Dv.pa_cell, Dv.refOf, Dv.boOf, Dv.intOf, Dv.tupOf, Dv.lstOf, Dv.dicOf_d, Dv.insOf_same, Dv.e_fl, Dv.e_kK, Dv.plc, Dv.e_var, Dv.e_c, Dv.e_cell, Dv.e_kCell, Dv.e_L, Dv.e_kL, Dv.e_Ls, Dv.e_Lc, Dv.e_kLc1, Dv.e_kLc2, Dv.e_Rd, Dv.e_kRd, Dv.e_Op, Dv.e_kOp1, Dv.e_kOp2, Dv.e_OpL, Dv.e_kOpL1, Dv.e_kOpL2, Dv.e_kOpL3, Dv.e_Tst, Dv.e_kTst, Dv.e_kTst2, Dv.e_Un, Dv.e_kUn, Dv.e_Ch, Dv.e_kCh1, Dv.e_kCh2, Dv.e_kCh3, Dv.e_kCh4, Dv.e_kCh5, Dv.e_And, Dv.e_kAnd, Dv.e_Or, Dv.e_kOr, Dv.e_Not, Dv.e_kNot, Dv.e_AndV, Dv.e_kAndV, Dv.e_kAndV2, Dv.e_OrV, Dv.e_kOrV, Dv.e_kOrV2, Dv.e_NotV, Dv.e_kNotV, Dv.e_kNotV2, Dv.e_IfV, Dv.e_kIfV, Dv.e_nil, Dv.e_Cons, Dv.e_kCons1, Dv.e_kCons2, Dv.e_Tup, Dv.e_kTup, Dv.e_Lst, Dv.e_kLst, Dv.e_Ca, Dv.e_kCa, Dv.e_NewL, Dv.e_kNewL, Dv.e_kNewL2, Dv.e_Seq, Dv.e_kSeqn, Dv.e_kSeqrt, Dv.e_kSeqbk, Dv.e_kSeqct, Dv.e_kSeqer, Dv.e_Next, Dv.e_Brk, Dv.e_Cnt, Dv.e_Drop, Dv.e_kDrop, Dv.e_Ret, Dv.e_RetN, Dv.e_RetO, Dv.e_kRetO, Dv.e_RetC, Dv.e_kRetC, Dv.e_IfS, Dv.e_kIfS, Dv.e_gNm, Dv.e_gNms0, Dv.e_gNms1, Dv.e_gTpN, Dv.e_gTpL, Dv.e_kTpN, Dv.e_Asg, Dv.e_kAsg, Dv.e_Set, Dv.e_kSet, Dv.e_Take, Dv.e_kTake, Dv.e_kTake2, Dv.e_kTake3, Dv.e_For, Dv.e_kWh, Dv.e_Call, Dv.e_kCall, Dv.e_NilR, Dv.e_ConsR, Dv.e_kConsR1, Dv.e_kConsR2, Dv.e_kBack, Dv.e_putP0, Dv.e_putP1, Dv.e_putP2, Dv.e_delP0, Dv.e_delP1, Dv.e_delP2, Dv.e_Yes, Dv.e_ItF, Dv.e_kItF, Dv.e_ItT, Dv.e_kItT, Dv.e_ItL, Dv.e_kItL, Dv.wipe_0, Dv.wipe_1, Dv.e_kME, Dv.e_kMB, Dv.e_kMT, Dv.e_LcS, Dv.e_Rg1, Dv.e_kRg1, Dv.e_Rg2, Dv.e_kRg2, Dv.e_EnL, Dv.e_kEnL, Dv.e_EnT, Dv.e_kEnT, Dv.e_kEn2, Dv.e_Zp, Dv.e_kZp, Dv.e_kZp2, Dv.sq_t, Dv.sq_l, Dv.e_No, Dv.e_Pt, Dv.e_kPt, Dv.e_kPt2, Dv.e_SlT, Dv.e_kSlT1, Dv.e_kSlT2, Dv.e_kSlT3, Dv.e_kSlT4, Dv.e_SlL, Dv.e_kSlL1, Dv.e_kSlL2, Dv.e_kSlL3, Dv.e_kSlL4, Dv.e_Prs0, Dv.e_Prs1, Dv.e_kPr1, Dv.e_kPr2, Dv.e_kPr3, Dv.e_Di, Dv.e_kDi, Dv.e_kDi2, Dv.e_ks0, Dv.e_ks1, Dv.e_ks2, Dv.e_NewD, Dv.e_Mu, Dv.e_kMu1, Dv.e_kMu2, Dv.e_kMu3, Dv.e_kMu4, Dv.e_kMu5, Dv.e_PD, Dv.e_kPD1, Dv.e_kPD2, Dv.e_kPD3, Dv.e_kPD4, Dv.e_kPD5, Dv.e_iS, Option.bind_some, Option.map_some, Dv.e_AI, Dv.e_kAI1, Dv.e_kAI2, Dv.e_kAI3, Dv.e_AL, Dv.e_kAL1, Dv.e_kAL2, Dv.e_kAL3, Dv.e_kAL4, Dv.e_Raise, Dv.e_Fld, Dv.e_kFld, Dv.e_kFld2, Dv.e_SF, Dv.e_kSF1, Dv.e_kSF2, Dv.e_kSF3, Dv.e_Me, Dv.e_kMe, Dv.e_kMe1, Dv.e_kMe2, Dv.e_Mk, Dv.e_kMk, Dv.e_kMk2, Dv.e_kMk3, Dv.e_vrt, Dv.e_vnx, Dv.e_ver, Dv.e_kOut, Dv.e_outs0, Dv.e_outs2, Dv.plain_int, Dv.plain_bool, Dv.plain_none, Dv.plain_str, Dv.flat_none, Dv.flat_bool, Dv.flat_int, Dv.flat_str, Dv.plain_l, Dv.plain_t, Dv.eq_ss, Dv.eq_ii, Dv.eq_si, Dv.eq_sn, Dv.eq_sb, Dv.eq_st, Dv.eq_sl, Dv.mem_nil, Dv.mem_cons, Dv.gIn_l, Dv.gIn_t, Dv.gNi_l, Dv.gNi_t, List.all_cons, List.all_nil, Bool.or_false, Bool.false_or, Dv.gDiv_int, Dv.gMod_int, Dv.gMul_int, Dv.ite_or, Dv.gI_int, Dv.divB, Dv.modB, Dv.mulB, Dv.gAdd_i, Dv.gSub_i, Dv.gLt_i, Dv.gLe_i, Dv.gGt_i, Dv.gGe_i, Dv.gNeg_i, Dv.gEqI_i, Dv.gNeI_i, Dv.gEqS_s, Dv.gNeS_s, Dv.gMax2_i, Dv.gMin2_i, Dv.gInt_b, Dv.gInt_i, Dv.len_l, Dv.len_t, Dv.len_f, Dv.not_dec, Dv.st0, Dv.isTy, Dv.strOk_of, Dv.flat_of, Dv.e_ListRg, Dv.e_kListRg, Dv.e_SortedSet, Dv.e_kSortedSet, Dv.gIsN_e, Dv.gNotN_e, Dv.isN_non, Dv.isN_bl, Dv.isN_int, Dv.isN_str, Dv.isN_l, Dv.isN_t, Dv.isN_d, Dv.isN_e, Dv.isN_r, Dv.isN_i, Dv.cat_l, Dv.cat_t, Dv.cnt_l, Dv.cntD_nil, Dv.cntD_cons, Dv.idx_l, Dv.ixD_nil, Dv.ixD_cons, Dv.eq_bb, Dv.ix_n, Dv.ixT_n, Dv.ix_i, Dv.ixT_i, Dv.ix_m1, Dv.ixT_m1, Dv.tup_l, Dv.tup_t, Dv.e_FA, Dv.e_kFA1, Dv.e_kFA1', Dv.e_kFA2, Dv.e_kFA3, Dv.e_kFA4, Dv.e_kFA5, Dv.cput_same, Dv.cput_cput, Dv.items_t, Dv.items_l, Dv.e_SI, Dv.e_kSI0, Dv.e_kSI1, Dv.e_kSI2, Dv.e_kSI3, Dv.e_kSI4, Dv.e_kSI5, Dv.fget_nil, Dv.fget_cons, Dv.fput_nil, Dv.fput_cons, Dv.all_b, Dv.all_m, Dv.sum_i, List.getElem?_cons_zero, List.getElem?_cons_succ, Int.ofNat_eq_natCast, Int.cast_ofNat_Int, Int.reduceToNat, Dv.e_Bm, Dv.e_kBm1, Dv.e_kBm1', Dv.e_kBm2, Dv.e_kBm3, Dv.isRd_l, Dv.isRd_s, Dv.e_Try, Dv.e_trnx, Dv.e_trrt, Dv.e_trbk, Dv.e_trct, Dv.e_trer, Dv.e_kTr, Dv.lkB_nil, Dv.lkB_cons, Dv.isEr_e, Dv.e_Lam, Dv.e_kLam, Dv.e_wipe0, Dv.e_wipe1, Dv.e_Act, Dv.e_kAct, Dv.e_kActE, Dv.e_lamS, Dv.e_kLs, Dv.e_kLsE, Dv.gKin_s, Dv.gKix_s, Dv.litD_t, Dv.litD_i, Dv.litD_n, Dv.isa_i, Dv.isa_s, Dv.isa_b, Dv.isa_n, Dv.isa_t, Dv.isa_l, Dv.isa_d, Dv.isa_dt, Dv.e_GO, Dv.e_GO1, Dv.e_GO2, Dv.e_GO3, Dv.e_GO4, Dv.e_GO5, Dv.kOf_str, Dv.kOf_int, Dv.lk_cons, Dv.lk_nil, Dv.e_Par, Dv.e_kPar, Dv.merge_nd, Dv.gDGet_d, Dv.gDIn_d, *])
local macro_rules | `(tactic| walk_at "vrd") => `(tactic| simp (config := {decide := true}) only [Bool.or_eq_true, Option.getD_some, Option.getD_none, decide_eq_true_eq, Ts.isaD, Ts.kindD, Ts.isaK, Bool.not_true, Bool.not_false, Bool.or_self, Bool.and_self, List.map_cons, List.map_nil, List.length_cons, List.length_nil, List.replicate, List.cons_append, List.nil_append, Nat.reduceSub, Nat.reduceAdd, List.set_cons_zero, List.set_cons_succ, ↓reduceIte, Bool.false_eq_true, reduceCtorEq, true_and, and_true, List.append_nil, Option.isSome_some, Nat.reduceLeDiff, Bool.and_true, Bool.true_and, Bool.or_true, Bool.true_or, decide_true, Nat.zero_add, Int.reduceNeg, Int.reducePow, Int.reduceLE, Int.reduceLT, Int.reduceAdd, Int.reduceSub, Int.reduceMul, Int.toNat_natCast, Option.map_some, Option.bind_some, beq_self_eq_true, Dv.bO_some, Dv.bO_none, Dv.ite_dec, Dv.gS_0, Dv.gS_n, Dv.gS_s, Dv.v_slot, Dv.v_val, Dv.v_cell, Dv.set_mk, Dv.cell_mk, Dv.pa_slot, Dv.pa_cell, Dv.refOf, Dv.boOf, Dv.intOf, Dv.tupOf, Dv.lstOf, Dv.dicOf_d, Dv.insOf_same, Dv.e_fl, Dv.e_kK, Dv.plc, Dv.e_var, Dv.e_c, Dv.e_cell, Dv.e_kCell, Dv.e_L, Dv.e_kL, Dv.e_Ls, Dv.e_Lc, Dv.e_kLc1, Dv.e_kLc2, Dv.e_Rd, Dv.e_kRd, Dv.e_Op, Dv.e_kOp1, Dv.e_kOp2, Dv.e_OpL, Dv.e_kOpL1, Dv.e_kOpL2, Dv.e_kOpL3, Dv.e_Tst, Dv.e_kTst, Dv.e_kTst2, Dv.e_Un, Dv.e_kUn, Dv.e_Ch, Dv.e_kCh1, Dv.e_kCh2, Dv.e_kCh3, Dv.e_kCh4, Dv.e_kCh5, Dv.e_And, Dv.e_kAnd, Dv.e_Or, Dv.e_kOr, Dv.e_Not, Dv.e_kNot, Dv.e_AndV, Dv.e_kAndV, Dv.e_kAndV2, Dv.e_OrV, Dv.e_kOrV, Dv.e_kOrV2, Dv.e_NotV, Dv.e_kNotV, Dv.e_kNotV2, Dv.e_IfV, Dv.e_kIfV, Dv.e_nil, Dv.e_Cons, Dv.e_kCons1, Dv.e_kCons2, Dv.e_Tup, Dv.e_kTup, Dv.e_Lst, Dv.e_kLst, Dv.e_Ca, Dv.e_kCa, Dv.e_NewL, Dv.e_kNewL, Dv.e_kNewL2, Dv.e_Seq, Dv.e_kSeqn, Dv.e_kSeqrt, Dv.e_kSeqbk, Dv.e_kSeqct, Dv.e_kSeqer, Dv.e_Next, Dv.e_Brk, Dv.e_Cnt, Dv.e_Drop, Dv.e_kDrop, Dv.e_Ret, Dv.e_RetN, Dv.e_RetO, Dv.e_kRetO, Dv.e_RetC, Dv.e_kRetC, Dv.e_IfS, Dv.e_kIfS, Dv.e_gNm, Dv.e_gNms0, Dv.e_gNms1, Dv.e_gTpN, Dv.e_gTpL, Dv.e_kTpN, Dv.e_Asg, Dv.e_kAsg, Dv.e_Set, Dv.e_kSet, Dv.e_Take, Dv.e_kTake, Dv.e_kTake2, Dv.e_kTake3, Dv.e_For, Dv.e_kWh, Dv.e_Call, Dv.e_kCall, Dv.e_NilR, Dv.e_ConsR, Dv.e_kConsR1, Dv.e_kConsR2, Dv.e_kBack, Dv.e_putP0, Dv.e_putP1, Dv.e_putP2, Dv.e_delP0, Dv.e_delP1, Dv.e_delP2, Dv.e_Yes, Dv.e_ItF, Dv.e_kItF, Dv.e_ItT, Dv.e_kItT, Dv.e_ItL, Dv.e_kItL, Dv.wipe_0, Dv.wipe_1, Dv.e_kME, Dv.e_kMB, Dv.e_kMT, Dv.e_LcS, Dv.e_Rg1, Dv.e_kRg1, Dv.e_Rg2, Dv.e_kRg2, Dv.e_EnL, Dv.e_kEnL, Dv.e_EnT, Dv.e_kEnT, Dv.e_kEn2, Dv.e_Zp, Dv.e_kZp, Dv.e_kZp2, Dv.sq_t, Dv.sq_l, Dv.e_No, Dv.e_Pt, Dv.e_kPt, Dv.e_kPt2, Dv.e_SlT, Dv.e_kSlT1, Dv.e_kSlT2, Dv.e_kSlT3, Dv.e_kSlT4, Dv.e_SlL, Dv.e_kSlL1, Dv.e_kSlL2, Dv.e_kSlL3, Dv.e_kSlL4, Dv.e_Prs0, Dv.e_Prs1, Dv.e_kPr1, Dv.e_kPr2, Dv.e_kPr3, Dv.e_Di, Dv.e_kDi, Dv.e_kDi2, Dv.e_ks0, Dv.e_ks1, Dv.e_ks2, Dv.e_NewD, Dv.e_Mu, Dv.e_kMu1, Dv.e_kMu2, Dv.e_kMu3, Dv.e_kMu4, Dv.e_kMu5, Dv.e_PD, Dv.e_kPD1, Dv.e_kPD2, Dv.e_kPD3, Dv.e_kPD4, Dv.e_kPD5, Dv.e_iS, Option.bind_some, Option.map_some, Dv.e_AI, Dv.e_kAI1, Dv.e_kAI2, Dv.e_kAI3, Dv.e_AL, Dv.e_kAL1, Dv.e_kAL2, Dv.e_kAL3, Dv.e_kAL4, Dv.e_Raise, Dv.e_Fld, Dv.e_kFld, Dv.e_kFld2, Dv.e_SF, Dv.e_kSF1, Dv.e_kSF2, Dv.e_kSF3, Dv.e_Me, Dv.e_kMe, Dv.e_kMe1, Dv.e_kMe2, Dv.e_Mk, Dv.e_kMk, Dv.e_kMk2, Dv.e_kMk3, Dv.e_vrt, Dv.e_vnx, Dv.e_ver, Dv.e_kOut, Dv.e_outs0, Dv.e_outs2, Dv.plain_int, Dv.plain_bool, Dv.plain_none, Dv.plain_str, Dv.flat_none, Dv.flat_bool, Dv.flat_int, Dv.flat_str, Dv.plain_l, Dv.plain_t, Dv.eq_ss, Dv.eq_ii, Dv.eq_si, Dv.eq_sn, Dv.eq_sb, Dv.eq_st, Dv.eq_sl, Dv.mem_nil, Dv.mem_cons, Dv.gIn_l, Dv.gIn_t, Dv.gNi_l, Dv.gNi_t, List.all_cons, List.all_nil, Bool.or_false, Bool.false_or, Dv.gDiv_int, Dv.gMod_int, Dv.gMul_int, Dv.ite_or, Dv.gI_int, Dv.divB, Dv.modB, Dv.mulB, Dv.gAdd_i, Dv.gSub_i, Dv.gLt_i, Dv.gLe_i, Dv.gGt_i, Dv.gGe_i, Dv.gNeg_i, Dv.gEqI_i, Dv.gNeI_i, Dv.gEqS_s, Dv.gNeS_s, Dv.gMax2_i, Dv.gMin2_i, Dv.gInt_b, Dv.gInt_i, Dv.len_l, Dv.len_t, Dv.len_f, Dv.not_dec, Dv.st0, Dv.isTy, Dv.strOk_of, Dv.flat_of, Dv.e_ListRg, Dv.e_kListRg, Dv.e_SortedSet, Dv.e_kSortedSet, Dv.gIsN_e, Dv.gNotN_e, Dv.isN_non, Dv.isN_bl, Dv.isN_int, Dv.isN_str, Dv.isN_l, Dv.isN_t, Dv.isN_d, Dv.isN_e, Dv.isN_r, Dv.isN_i, Dv.cat_l, Dv.cat_t, Dv.cnt_l, Dv.cntD_nil, Dv.cntD_cons, Dv.idx_l, Dv.ixD_nil, Dv.ixD_cons, Dv.eq_bb, Dv.ix_n, Dv.ixT_n, Dv.ix_i, Dv.ixT_i, Dv.ix_m1, Dv.ixT_m1, Dv.tup_l, Dv.tup_t, Dv.e_FA, Dv.e_kFA1, Dv.e_kFA1', Dv.e_kFA2, Dv.e_kFA3, Dv.e_kFA4, Dv.e_kFA5, Dv.cput_same, Dv.cput_cput, Dv.items_t, Dv.items_l, Dv.e_SI, Dv.e_kSI0, Dv.e_kSI1, Dv.e_kSI2, Dv.e_kSI3, Dv.e_kSI4, Dv.e_kSI5, Dv.fget_nil, Dv.fget_cons, Dv.fput_nil, Dv.fput_cons, Dv.all_b, Dv.all_m, Dv.sum_i, List.getElem?_cons_zero, List.getElem?_cons_succ, Int.ofNat_eq_natCast, Int.cast_ofNat_Int, Int.reduceToNat, Dv.e_Bm, Dv.e_kBm1, Dv.e_kBm1', Dv.e_kBm2, Dv.e_kBm3, Dv.isRd_l, Dv.isRd_s, Dv.e_Try, Dv.e_trnx, Dv.e_trrt, Dv.e_trbk, Dv.e_trct, Dv.e_trer, Dv.e_kTr, Dv.lkB_nil, Dv.lkB_cons, Dv.isEr_e, Dv.e_Lam, Dv.e_kLam, Dv.e_wipe0, Dv.e_wipe1, Dv.e_Act, Dv.e_kAct, Dv.e_kActE, Dv.e_lamS, Dv.e_kLs, Dv.e_kLsE, Dv.gKin_s, Dv.gKix_s, Dv.litD_t, Dv.litD_i, Dv.litD_n, Dv.isa_i, Dv.isa_s, Dv.isa_b, Dv.isa_n, Dv.isa_t, Dv.isa_l, Dv.isa_d, Dv.isa_dt, Dv.e_GO, Dv.e_GO1, Dv.e_GO2, Dv.e_GO3, Dv.e_GO4, Dv.e_GO5, Dv.kOf_str, Dv.kOf_int, Dv.lk_cons, Dv.lk_nil, Dv.e_Par, Dv.e_kPar, Dv.merge_nd, Dv.gDGet_d, Dv.gDIn_d])
local macro_rules | `(tactic| walk_at "call") => `(tactic| refine Dv.r_call _ _ rfl rfl (by decide) rfl rfl ?_)

def S_lcosts : Fs := pS fun ds P _ => ∃ st, ds = [st, .int 9] ∧ StOk st ∧ ∀ rows n st', Rows rows n → rows.length ≤ 9 → StOk st' → P (.tuple (rowsD rows)) [st']
def S_ltoll : Fs := pS fun ds P _ => ∃ st, ds = [st] ∧ StOk st ∧ ∀ i st', 1 ≤ i → i ≤ 1000 → StOk st' → P (.int i) [st']
def rowOk (n : Int) (ds : List Dt) : Prop := ∃ ns : List Int, ds = ns.map .int ∧ (ns.length : Int) = n ∧ ∀ i ∈ ns, 1 ≤ i ∧ i ≤ 1000000
theorem rows_of {m : Int} : ∀ {rs : List Dt}, (∀ r ∈ rs, ∃ es, r = .tuple es ∧ rowOk m es) → ∃ rows, rs = rowsD rows ∧ ∀ r ∈ rows, (r.length : Int) = m ∧ ∀ i ∈ r, 1 ≤ i ∧ i ≤ 1000000
  | [], _ => ⟨[], rfl, fun r m => by cases m⟩
  | r :: rs, h => by
    obtain ⟨es, rfl, ns, rfl, h1, h2⟩ := h r List.mem_cons_self
    obtain ⟨rows, rfl, h3⟩ := rows_of (rs := rs) fun r m => h r (List.mem_cons_of_mem _ m)
    refine ⟨ns :: rows, rfl, fun r m => ?_⟩
    rcases List.mem_cons.mp m with rfl | m
    · exact ⟨h1, h2⟩
    · exact h3 r m
section
variable {P : Program} {w : World} {K : PySem.W.Frag} {mg : Str → Option Value} {base : Heap} {TL : Tbs}
theorem sc_law_toll : FnScope ["_law_state"] ["_law_state"] (defScope slaw_toll) := ⟨rfl, rfl, rfl, by decide +kernel, rfl, by decide +kernel, by decide +kernel⟩
theorem v_law_toll (T : Tw fa fn ts xb w K mg) : GFn P w K mg base 3 (He.fAd K dlaw_toll.at_) ["_law_state"] (spV K TL 1 [0] S_ltoll) := by
  obtain ⟨fd, F⟩ := T.says.def_ 13 (d := dlaw_toll) rfl
  refine okV (fun i => ([0] : List Nat).contains i) [0] _ F sc_law_toll (fun _ _ _ _ _ _ us hl => match us, hl with | [_], _ => rfl) rfl rfl (by decide) ⟨_, fun cdv hcdv A outer s H E hr => have hu := hu_of hr.rm; have hu65 := hu65_of hr.rm; (vss_one (vs_ret (vx_call (v_law_pick T) (hr.mono (by decide)) (T.g 11) (fun σ => passAt (takes_of rfl rfl rfl rfl) σ) (vr_cons (vl_slot (pv 0)) (vr_cons (vl_val (vx_of (vn_lst (va_cons (vx_int pe_int) (va_cons (vx_int pe_int) (va_cons (vx_int pe_int) (va_cons (vx_int pe_int) (va_cons (vx_int pe_int) (va_cons (vx_op oAdd (vx_int pe_int) (vb_of (vx_call (v_law_take T) (hr.mono (by decide)) (T.g 10) (fun σ => passAt (takes_of rfl rfl rfl rfl) σ) (vr_cons (vl_slot (pv 0)) (vr_cons (vl_val (vx_int pe_int)) vr_nil))))) (va_cons (vx_op oAdd (vx_int pe_int) (vb_of (vx_call (v_law_take T) (hr.mono (by decide)) (T.g 10) (fun σ => passAt (takes_of rfl rfl rfl rfl) σ) (vr_cons (vl_slot (pv 0)) (vr_cons (vl_val (vx_int pe_int)) vr_nil))))) va_nil)))))))))) vr_nil))))), fun ds cs Q Er hl h => ?_⟩
  clear hl
  obtain ⟨st, rfl, hst, k⟩ := h
  walk_at "vrd"
  walk_at "call"
  refine ⟨_, _, rfl, hst, by decide, by decide, fun i1 st h1 h2 hst => ?_⟩
  walk_at "vrd"
  walk_at "call"
  refine ⟨_, _, rfl, hst, by decide, by decide, fun i2 st h3 h4 hst => ?_⟩
  walk_at "vrd"
  walk_at "call"
  refine ⟨_, _, rfl, hst, by simp, by simp, fun x st hx hst => ?_⟩
  obtain ⟨i, rfl, h5, h6⟩ : ∃ i, x = .int i ∧ 1 ≤ i ∧ i ≤ 1000 := by
    simp at hx
    rcases hx with rfl | rfl | rfl | rfl | rfl | rfl | rfl <;> exact ⟨_, rfl, by omega, by omega⟩
  walk_at "vrd"
  exact k i st h5 h6 hst
theorem sc_law_costs : FnScope ["_law_state", "_law_most", "_law_many", "_law_way", "_law_rows", "_law_k", "_law_row", "_law_kind"] ["_law_state", "_law_most"] (defScope slaw_costs) := ⟨rfl, rfl, rfl, by decide +kernel, rfl, by decide +kernel, by decide +kernel⟩
theorem v_law_costs (T : Tw fa fn ts xb w K mg) : GFn P w K mg base 3 (He.fAd K dlaw_costs.at_) ["_law_state", "_law_most"] (spV K TL 2 [0] S_lcosts) := by
  obtain ⟨fd, F⟩ := T.says.def_ 12 (d := dlaw_costs) rfl
  refine okV (fun i => ([0, 4, 6] : List Nat).contains i) [0] _ F sc_law_costs (fun _ _ _ _ _ _ us hl => match us, hl with | [_, _], _ => rfl) rfl rfl (by decide) ⟨_, fun cdv hcdv A outer s H E hr => have hu := hu_of hr.rm; have hu65 := hu65_of hr.rm; (vss_cons (vs_set (i := 2) (vx_op oAdd (vx_int pe_int) (vb_of (vx_call (v_law_take T) (hr.mono (by decide)) (T.g 10) (fun σ => passAt (takes_of rfl rfl rfl rfl) σ) (vr_cons (vl_slot (pv 0)) (vr_cons (vl_val (vx_int pe_int)) vr_nil))))) (fun h => ps_set (i := 2) sc_law_costs.nd rfl (Or.inl rfl) h))
      (vss_cons (vs_set (i := 3) (vx_call (v_law_take T) (hr.mono (by decide)) (T.g 10) (fun σ => passAt (takes_of rfl rfl rfl rfl) σ) (vr_cons (vl_slot (pv 0)) (vr_cons (vl_val (vx_int pe_int)) vr_nil))) (fun h => ps_set (i := 3) sc_law_costs.nd rfl (Or.inr rfl) h))
      (vss_cons (vs_setN (i := 4) (vn_lst va_nil) (fun h => ps_set (i := 4) sc_law_costs.nd rfl (Or.inl rfl) h))
      (vss_cons (vs_for (vi_rg1 (va_cons (vx_call (v_law_take T) (hr.mono (by decide)) (T.g 10) (fun σ => passAt (takes_of rfl rfl rfl rfl) σ) (vr_cons (vl_slot (pv 0)) (vr_cons (vl_val (vx_op oAdd (vx_var (pv 1)) (vb_of (vx_int pe_int)))) vr_nil))) va_nil) (fun h => pi_range1 rfl (T.b 77) h)) (vg_name (pg_name (i := 5) sc_law_costs.nd rfl (Or.inl rfl))) (vss_cons (vs_setLcN (i := 6) (vs := [7]) (g := gName 7) (vi_rg1 (va_cons (vx_var (pv 2)) va_nil) (fun h => pi_range1 rfl (T.b 77) h)) (dgw_name (by decide) rfl rfl) rfl (fun {wi} hi => ps_setLc (i := 6) (own := [("_law_kind", 7)]) (g := gName 7) rfl sc_law_costs.nd rfl rfl (sw_true rfl rfl rfl (by decide +kernel)) hi (blkOk_by (N := ["_law_state", "_law_most", "_law_many", "_law_way", "_law_rows", "_law_k", "_law_row", "_law_kind"]) (sc := defScope slaw_costs) (by decide +kernel)) (fun _ _ _ _ _ => pg_name (i := 7) sc_law_costs.nd rfl (Or.inl rfl)) (fun _ _ _ _ _ => vts_nil) (fun _ _ _ _ _ => VX.can (vx_op oAdd (vx_int pe_int) (vb_of (vx_call (v_law_take T) (hr.mono (by decide)) (T.g 10) pn (vr_cons (vl_slot (pv 0)) (vr_cons (vl_val (vx_ix iSeq (vx_of (vn_lst (va_cons (vx_int pe_int) (va_cons (vx_int pe_int) (va_cons (vx_int pe_int) (va_cons (vx_int pe_int) (va_cons (vx_int pe_int) va_nil))))))) (vx_var (pv 3)))) vr_nil))))))))
      (vss_cons (vs_if (vt_cmp oEqI (vx_var (pv 3)) (vb_of (vx_int pe_int)) (nomark _)) (vss_one (vs_setI (vl_slot (pv 6)) (vx_op oMod (vx_op oDiv (vx_var (pv 5)) (vb_of (vx_int pe_int))) (vb_of (vx_var (pv 2)))) (vx_op oAdd (vx_int pe_int) (vb_of (vx_call (v_law_take T) (hr.mono (by decide)) (T.g 10) (fun σ => passAt (takes_of rfl rfl rfl rfl) σ) (vr_cons (vl_slot (pv 0)) (vr_cons (vl_val (vx_int pe_int)) vr_nil))))) (fun h1 h2 h3 => ps_asg h3 (pg_sub h1 h2 set_list)))) vss_nil)
      (vss_one (vs_expr (vx_mu muAppend (vl_slot (pv 4)) (va_cons (vx_b1 cTupV (vb_L (vl_slot (pv 6))) (fun h1 h2 => pe_callTy h1 (by rfl) (T.b 83) (by decide +kernel) h2)) va_nil) (fun h1 h2 h3 => pe_bm PySem.F.plainAttrs_list PySem.F.slot_list_append PySem.F.type_list_append h1 h2 h3)))))) (fun h1 h2 h3 => ps_for (passes_of rfl) rfl h1 h2 h3))
      (vss_one (vs_ret (vx_b1 cTupV (vb_L (vl_slot (pv 4))) (fun h1 h2 => pe_callTy h1 (by rfl) (T.b 83) (by decide +kernel) h2)))))))), fun ds cs Q Er hl h => ?_⟩
  clear hl
  obtain ⟨st, rfl, hst, k⟩ := h
  walk_at "vrd"
  walk_at "call"
  refine ⟨_, _, rfl, hst, by decide, by decide, fun n0 st hn0 hn1 hst => ?_⟩
  walk_at "vrd"
  walk_at "call"
  refine ⟨_, _, rfl, hst, by decide, by decide, fun way st hw0 hw1 hst => ?_⟩
  walk_at "vrd"
  walk_at "call"
  refine ⟨_, _, rfl, hst, by decide, by decide, fun m st hm0 hm1 hst => ?_⟩
  walk_at "vrd"
  refine ⟨by omega, by omega, ?_⟩
  refine r_for (fun i s => ∃ st rs x5 x6 x7, s = ⟨[some st, some (.int 9), some (.int (1 + n0)), some (.int way), some (.list rs), x5, x6, x7], cs⟩ ∧ StOk st ∧ rs.length = i ∧ ∀ r ∈ rs, ∃ es, r = .tuple es ∧ rowOk (1 + n0) es) ⟨_, _, _, _, _, rfl, hst, rfl, fun r m => by cases m⟩ ?_ ?_
  · rintro i s d hd ⟨st, rs, x5, x6, x7, rfl, hst, hrl, hrs⟩
    have hi : i < m.toNat := by
      have := (List.getElem?_eq_some_iff.mp hd).1
      rw [rgD_len] at this
      exact this
    rw [rg0, List.getElem?_map, List.getElem?_range hi] at hd
    cases hd
    walk_at "vrd"
    refine ⟨by omega, by omega, ?_⟩
    obtain ⟨y, hy, ey⟩ := ix_list (xs := [.int 3, .int 9, .int 60, .int 1000000, .int 2]) hw0 hw1
    obtain ⟨top, rfl, ht0, ht1⟩ : ∃ t, y = Dt.int t ∧ 0 < t ∧ t ≤ 1000000 := by
      simp at hy
      rcases hy with rfl | rfl | rfl | rfl | rfl <;> exact ⟨_, rfl, by decide, by decide⟩
    refine r_lcI (fun j acc s => ∃ st, s = ⟨[some st, some (.int 9), some (.int (1 + n0)), some (.int way), some (.list rs), some (.int i), x6, none], cs⟩ ∧ StOk st ∧ rowOk j acc) ⟨st, rfl, hst, [], rfl, rfl, fun i m => by cases m⟩ ?_ ?_
    · rintro j acc s d hd2 ⟨st, rfl, hst, ns, rfl, hnl, hns⟩
      walk_at "vrd"
      rw [ey]
      walk_at "vrd"
      walk_at "call"
      refine ⟨_, _, rfl, hst, ht0, by omega, fun v st hv0 hv1 hst => ?_⟩
      walk_at "vrd"
      have hj : j < (1 + n0).toNat := by
        have := (List.getElem?_eq_some_iff.mp hd2).1
        rw [rgD_len] at this
        exact this
      refine ⟨by rw [List.length_map]; omega, st, rfl, hst, ns ++ [1 + v], by simp, by simp; omega, fun z hz => ?_⟩
      rcases List.mem_append.mp hz with hz | hz
      · exact hns z hz
      · cases List.mem_singleton.mp hz
        omega
    · rintro acc s ⟨st, rfl, hst, ns, rfl, hnl, hns⟩
      rw [rgD_len] at hnl
      generalize hW : sDrop _ = W
      generalize hV : (⟨_, _, _, _, _⟩ : VEnds) = V
      have tail : ∀ st es, StOk st → rowOk (1 + n0) es → W ⟨[some st, some (.int 9), some (.int (1 + n0)), some (.int way), some (.list rs), some (.int i), some (.list es), none], cs⟩ V := by
        intro st es hst hes
        subst hV hW
        walk_at "vrd"
        rw [app_l (by omega)]
        walk_at "vrd"
        refine ⟨_, _, _, _, _, rfl, hst, by rw [List.length_append, hrl]; rfl, fun r hr => ?_⟩
        rcases List.mem_append.mp hr with hr | hr
        · exact hrs r hr
        · cases List.mem_singleton.mp hr
          exact ⟨es, rfl, hes⟩
      walk_at "vrd"
      split
      · walk_at "call"
        refine ⟨_, _, rfl, hst, by decide, by decide, fun v st hv0 hv1 hst => ?_⟩
        walk_at "vrd"
        rw [gMod_int (by unfold modB; exact decide_eq_true (by omega))]
        walk_at "vrd"
        have e0 := Int.emod_nonneg ((i : Int) / 3) (show 1 + n0 ≠ 0 by omega)
        have e1 := Int.emod_lt_of_pos ((i : Int) / 3) (show 0 < 1 + n0 by omega)
        have hlt : ((i : Int) / 3 % (1 + n0)).toNat < ns.length := by omega
        rw [ixN_i e0 (by rw [List.length_map]; omega)]
        walk_at "vrd"
        refine tail _ _ hst ⟨ns.set ((i : Int) / 3 % (1 + n0)).toNat (1 + v), by rw [List.map_set], by rw [List.length_set]; omega, fun z hz => ?_⟩
        rcases List.mem_or_eq_of_mem_set hz with hz | rfl
        · exact hns z hz
        · omega
      · exact tail _ _ hst ⟨ns, rfl, by omega, hns⟩
  · rintro s ⟨st, rs, x5, x6, x7, rfl, hst, hrl, hrs⟩
    rw [rgD_len] at hrl
    walk_at "vrd"
    obtain ⟨rows, rfl, hr⟩ := rows_of hrs
    rw [rowsD_len] at hrl
    exact k rows (1 + n0).toNat st ⟨by omega, by omega, by omega, fun r m => ⟨by have := (hr r m).1; omega, (hr r m).2⟩⟩ (by omega) hst
end
end VC
/-! V87b: the law's own look at costs and ends. -/
namespace VC
open PySem PySem.Spec PyProof.Rows L2 Ts Dv VD K87
local macro_rules | `(tactic| walk_at "vrh") => `(tactic| simp (config := {decide := true}) only [Bool.or_eq_true, Option.getD_some, Option.getD_none, decide_eq_true_eq, Ts.isaD, Ts.kindD, Ts.isaK, Bool.not_true, Bool.not_false, Bool.or_self, Bool.and_self, List.map_cons, List.map_nil, List.length_cons, List.length_nil, List.replicate, List.cons_append, List.nil_append, Nat.reduceSub, Nat.reduceAdd, List.set_cons_zero, List.set_cons_succ, ↓reduceIte, Bool.false_eq_true, reduceCtorEq, true_and, and_true, List.append_nil, Option.isSome_some, Nat.reduceLeDiff, Bool.and_true, Bool.true_and, Bool.or_true, Bool.true_or, decide_true, Nat.zero_add, Int.reduceNeg, Int.reducePow, Int.reduceLE, Int.reduceLT, Int.reduceAdd, Int.reduceSub, Int.reduceMul, Int.toNat_natCast, Option.map_some, Option.bind_some, beq_self_eq_true, Dv.bO_some, Dv.bO_none, Dv.ite_dec, Dv.gS_0, Dv.gS_n, Dv.gS_s, Dv.v_slot, Dv.v_val, Dv.v_cell, Dv.set_mk, Dv.cell_mk, Dv.pa_slot, Dv.pa_cell, Dv.refOf, Dv.boOf, Dv.intOf, Dv.tupOf, Dv.lstOf, Dv.dicOf_d, Dv.insOf_same, Dv.e_fl, Dv.e_kK, Dv.plc, Dv.e_var, Dv.e_c, Dv.e_cell, Dv.e_kCell, Dv.e_L, Dv.e_kL, Dv.e_Ls, Dv.e_Lc, Dv.e_kLc1, Dv.e_kLc2, Dv.e_Rd, Dv.e_kRd, Dv.e_Op, Dv.e_kOp1, Dv.e_kOp2, Dv.e_OpL, Dv.e_kOpL1, Dv.e_kOpL2, Dv.e_kOpL3, Dv.e_Tst, Dv.e_kTst, Dv.e_kTst2, Dv.e_Un, Dv.e_kUn, Dv.e_Ch, Dv.e_kCh1, Dv.e_kCh2, Dv.e_kCh3, Dv.e_kCh4, Dv.e_kCh5, Dv.e_And, Dv.e_kAnd, Dv.e_Or, Dv.e_kOr, Dv.e_Not, Dv.e_kNot, Dv.e_AndV, Dv.e_kAndV, Dv.e_kAndV2, Dv.e_OrV, Dv.e_kOrV, Dv.e_kOrV2, Dv.e_NotV, Dv.e_kNotV, Dv.e_kNotV2, Dv.e_IfV, Dv.e_kIfV, Dv.e_nil, Dv.e_Cons, Dv.e_kCons1, Dv.e_kCons2, Dv.e_Tup, Dv.e_kTup, Dv.e_Lst, Dv.e_kLst, Dv.e_Ca, Dv.e_kCa, Dv.e_NewL, Dv.e_kNewL, Dv.e_kNewL2, Dv.e_Seq, Dv.e_kSeqn, Dv.e_kSeqrt, Dv.e_kSeqbk, Dv.e_kSeqct, Dv.e_kSeqer, Dv.e_Next, Dv.e_Brk, Dv.e_Cnt, Dv.e_Drop, Dv.e_kDrop, Dv.e_Ret, Dv.e_RetN, Dv.e_RetO, Dv.e_kRetO, Dv.e_RetC, Dv.e_kRetC, Dv.e_IfS, Dv.e_kIfS, Dv.e_gNm, Dv.e_gNms0, Dv.e_gNms1, Dv.e_gTpN, Dv.e_gTpL, Dv.e_kTpN, Dv.e_Asg, Dv.e_kAsg, Dv.e_Set, Dv.e_kSet, Dv.e_Take, Dv.e_kTake, Dv.e_kTake2, Dv.e_kTake3, Dv.e_For, Dv.e_kWh, Dv.e_Call, Dv.e_kCall, Dv.e_NilR, Dv.e_ConsR, Dv.e_kConsR1, Dv.e_kConsR2, Dv.e_kBack, Dv.e_putP0, Dv.e_putP1, Dv.e_putP2, Dv.e_delP0, Dv.e_delP1, Dv.e_delP2, Dv.e_Yes, Dv.e_ItF, Dv.e_kItF, Dv.e_ItT, Dv.e_kItT, Dv.e_ItL, Dv.e_kItL, Dv.wipe_0, Dv.wipe_1, Dv.e_kME, Dv.e_kMB, Dv.e_kMT, Dv.e_LcS, Dv.e_Rg1, Dv.e_kRg1, Dv.e_Rg2, Dv.e_kRg2, Dv.e_EnL, Dv.e_kEnL, Dv.e_EnT, Dv.e_kEnT, Dv.e_kEn2, Dv.e_Zp, Dv.e_kZp, Dv.e_kZp2, Dv.sq_t, Dv.sq_l, Dv.e_No, Dv.e_Pt, Dv.e_kPt, Dv.e_kPt2, Dv.e_SlT, Dv.e_kSlT1, Dv.e_kSlT2, Dv.e_kSlT3, Dv.e_kSlT4, Dv.e_SlL, Dv.e_kSlL1, Dv.e_kSlL2, Dv.e_kSlL3, Dv.e_kSlL4, Dv.e_Prs0, Dv.e_Prs1, Dv.e_kPr1, Dv.e_kPr2, Dv.e_kPr3, Dv.e_Di, Dv.e_kDi, Dv.e_kDi2, Dv.e_ks0, Dv.e_ks1, Dv.e_ks2, Dv.e_NewD, Dv.e_Mu, Dv.e_kMu1, Dv.e_kMu2, Dv.e_kMu3, Dv.e_kMu4, Dv.e_kMu5, Dv.e_PD, Dv.e_kPD1, Dv.e_kPD2, Dv.e_kPD3, Dv.e_kPD4, Dv.e_kPD5, Dv.e_iS, Option.bind_some, Option.map_some, Dv.e_AI, Dv.e_kAI1, Dv.e_kAI2, Dv.e_kAI3, Dv.e_AL, Dv.e_kAL1, Dv.e_kAL2, Dv.e_kAL3, Dv.e_kAL4, Dv.e_Raise, Dv.e_Fld, Dv.e_kFld, Dv.e_kFld2, Dv.e_SF, Dv.e_kSF1, Dv.e_kSF2, Dv.e_kSF3, Dv.e_Me, Dv.e_kMe, Dv.e_kMe1, Dv.e_kMe2, Dv.e_Mk, Dv.e_kMk, Dv.e_kMk2, Dv.e_kMk3, Dv.e_vrt, Dv.e_vnx, Dv.e_ver, Dv.e_kOut, Dv.e_outs0, Dv.e_outs2, Dv.plain_int, Dv.plain_bool, Dv.plain_none, Dv.plain_str, Dv.flat_none, Dv.flat_bool, Dv.flat_int, Dv.flat_str, Dv.plain_l, Dv.plain_t, Dv.eq_ss, Dv.eq_ii, Dv.eq_si, Dv.eq_sn, Dv.eq_sb, Dv.eq_st, Dv.eq_sl, Dv.mem_nil, Dv.mem_cons, Dv.gIn_l, Dv.gIn_t, Dv.gNi_l, Dv.gNi_t, List.all_cons, List.all_nil, Bool.or_false, Bool.false_or, Dv.gDiv_int, Dv.gMod_int, Dv.gMul_int, Dv.ite_or, Dv.gI_int, Dv.divB, Dv.modB, Dv.mulB, Dv.gAdd_i, Dv.gSub_i, Dv.gLt_i, Dv.gLe_i, Dv.gGt_i, Dv.gGe_i, Dv.gNeg_i, Dv.gEqI_i, Dv.gNeI_i, Dv.gEqS_s, Dv.gNeS_s, Dv.gMax2_i, Dv.gMin2_i, Dv.gInt_b, Dv.gInt_i, Dv.len_l, Dv.len_t, Dv.len_f, Dv.not_dec, Dv.st0, Dv.isTy, Dv.strOk_of, Dv.flat_of, Dv.e_ListRg, Dv.e_kListRg, Dv.e_SortedSet, Dv.e_kSortedSet, Dv.gIsN_e, Dv.gNotN_e, Dv.isN_non, Dv.isN_bl, Dv.isN_int, Dv.isN_str, Dv.isN_l, Dv.isN_t, Dv.isN_d, Dv.isN_e, Dv.isN_r, Dv.isN_i, Dv.cat_l, Dv.cat_t, Dv.cnt_l, Dv.cntD_nil, Dv.cntD_cons, Dv.idx_l, Dv.ixD_nil, Dv.ixD_cons, Dv.eq_bb, Dv.ix_n, Dv.ixT_n, Dv.ix_i, Dv.ixT_i, Dv.ix_m1, Dv.ixT_m1, Dv.tup_l, Dv.tup_t, Dv.e_FA, Dv.e_kFA1, Dv.e_kFA1', Dv.e_kFA2, Dv.e_kFA3, Dv.e_kFA4, Dv.e_kFA5, Dv.cput_same, Dv.cput_cput, Dv.items_t, Dv.items_l, Dv.e_SI, Dv.e_kSI0, Dv.e_kSI1, Dv.e_kSI2, Dv.e_kSI3, Dv.e_kSI4, Dv.e_kSI5, Dv.fget_nil, Dv.fget_cons, Dv.fput_nil, Dv.fput_cons, Dv.all_b, Dv.all_m, Dv.sum_i, List.getElem?_cons_zero, List.getElem?_cons_succ, Int.ofNat_eq_natCast, Int.cast_ofNat_Int, Int.reduceToNat, Dv.e_Bm, Dv.e_kBm1, Dv.e_kBm1', Dv.e_kBm2, Dv.e_kBm3, Dv.isRd_l, Dv.isRd_s, Dv.e_Try, Dv.e_trnx, Dv.e_trrt, Dv.e_trbk, Dv.e_trct, Dv.e_trer, Dv.e_kTr, Dv.lkB_nil, Dv.lkB_cons, Dv.isEr_e, Dv.e_Lam, Dv.e_kLam, Dv.e_wipe0, Dv.e_wipe1, Dv.e_Act, Dv.e_kAct, Dv.e_kActE, Dv.e_lamS, Dv.e_kLs, Dv.e_kLsE, Dv.gKin_s, Dv.gKix_s, Dv.litD_t, Dv.litD_i, Dv.litD_n, Dv.isa_i, Dv.isa_s, Dv.isa_b, Dv.isa_n, Dv.isa_t, Dv.isa_l, Dv.isa_d, Dv.isa_dt, Dv.e_GO, Dv.e_GO1, Dv.e_GO2, Dv.e_GO3, Dv.e_GO4, Dv.e_GO5, Dv.kOf_str, Dv.kOf_int, Dv.lk_cons, Dv.lk_nil, Dv.e_Par, Dv.e_kPar, Dv.merge_nd, Dv.gDGet_d, Dv.gDIn_d, e_RevT, e_kRevT, e_RevL, e_kRevL, *])
local macro_rules | `(tactic| walk_at "vrd") => `(tactic| simp (config := {decide := true}) only [Bool.or_eq_true, Option.getD_some, Option.getD_none, decide_eq_true_eq, Ts.isaD, Ts.kindD, Ts.isaK, Bool.not_true, Bool.not_false, Bool.or_self, Bool.and_self, List.map_cons, List.map_nil, List.length_cons, List.length_nil, List.replicate, List.cons_append, List.nil_append, Nat.reduceSub, Nat.reduceAdd, List.set_cons_zero, List.set_cons_succ, ↓reduceIte, Bool.false_eq_true, reduceCtorEq, true_and, and_true, List.append_nil, Option.isSome_some, Nat.reduceLeDiff, Bool.and_true, Bool.true_and, Bool.or_true, Bool.true_or, decide_true, Nat.zero_add, Int.reduceNeg, Int.reducePow, Int.reduceLE, Int.reduceLT, Int.reduceAdd, Int.reduceSub, Int.reduceMul, Int.toNat_natCast, Option.map_some, Option.bind_some, beq_self_eq_true, Dv.bO_some, Dv.bO_none, Dv.ite_dec, Dv.gS_0, Dv.gS_n, Dv.gS_s, Dv.v_slot, Dv.v_val, Dv.v_cell, Dv.set_mk, Dv.cell_mk, Dv.pa_slot, Dv.pa_cell, Dv.refOf, Dv.boOf, Dv.intOf, Dv.tupOf, Dv.lstOf, Dv.dicOf_d, Dv.insOf_same, Dv.e_fl, Dv.e_kK, Dv.plc, Dv.e_var, Dv.e_c, Dv.e_cell, Dv.e_kCell, Dv.e_L, Dv.e_kL, Dv.e_Ls, Dv.e_Lc, Dv.e_kLc1, Dv.e_kLc2, Dv.e_Rd, Dv.e_kRd, Dv.e_Op, Dv.e_kOp1, Dv.e_kOp2, Dv.e_OpL, Dv.e_kOpL1, Dv.e_kOpL2, Dv.e_kOpL3, Dv.e_Tst, Dv.e_kTst, Dv.e_kTst2, Dv.e_Un, Dv.e_kUn, Dv.e_Ch, Dv.e_kCh1, Dv.e_kCh2, Dv.e_kCh3, Dv.e_kCh4, Dv.e_kCh5, Dv.e_And, Dv.e_kAnd, Dv.e_Or, Dv.e_kOr, Dv.e_Not, Dv.e_kNot, Dv.e_AndV, Dv.e_kAndV, Dv.e_kAndV2, Dv.e_OrV, Dv.e_kOrV, Dv.e_kOrV2, Dv.e_NotV, Dv.e_kNotV, Dv.e_kNotV2, Dv.e_IfV, Dv.e_kIfV, Dv.e_nil, Dv.e_Cons, Dv.e_kCons1, Dv.e_kCons2, Dv.e_Tup, Dv.e_kTup, Dv.e_Lst, Dv.e_kLst, Dv.e_Ca, Dv.e_kCa, Dv.e_NewL, Dv.e_kNewL, Dv.e_kNewL2, Dv.e_Seq, Dv.e_kSeqn, Dv.e_kSeqrt, Dv.e_kSeqbk, Dv.e_kSeqct, Dv.e_kSeqer, Dv.e_Next, Dv.e_Brk, Dv.e_Cnt, Dv.e_Drop, Dv.e_kDrop, Dv.e_Ret, Dv.e_RetN, Dv.e_RetO, Dv.e_kRetO, Dv.e_RetC, Dv.e_kRetC, Dv.e_IfS, Dv.e_kIfS, Dv.e_gNm, Dv.e_gNms0, Dv.e_gNms1, Dv.e_gTpN, Dv.e_gTpL, Dv.e_kTpN, Dv.e_Asg, Dv.e_kAsg, Dv.e_Set, Dv.e_kSet, Dv.e_Take, Dv.e_kTake, Dv.e_kTake2, Dv.e_kTake3, Dv.e_For, Dv.e_kWh, Dv.e_Call, Dv.e_kCall, Dv.e_NilR, Dv.e_ConsR, Dv.e_kConsR1, Dv.e_kConsR2, Dv.e_kBack, Dv.e_putP0, Dv.e_putP1, Dv.e_putP2, Dv.e_delP0, Dv.e_delP1, Dv.e_delP2, Dv.e_Yes, Dv.e_ItF, Dv.e_kItF, Dv.e_ItT, Dv.e_kItT, Dv.e_ItL, Dv.e_kItL, Dv.wipe_0, Dv.wipe_1, Dv.e_kME, Dv.e_kMB, Dv.e_kMT, Dv.e_LcS, Dv.e_Rg1, Dv.e_kRg1, Dv.e_Rg2, Dv.e_kRg2, Dv.e_EnL, Dv.e_kEnL, Dv.e_EnT, Dv.e_kEnT, Dv.e_kEn2, Dv.e_Zp, Dv.e_kZp, Dv.e_kZp2, Dv.sq_t, Dv.sq_l, Dv.e_No, Dv.e_Pt, Dv.e_kPt, Dv.e_kPt2, Dv.e_SlT, Dv.e_kSlT1, Dv.e_kSlT2, Dv.e_kSlT3, Dv.e_kSlT4, Dv.e_SlL, Dv.e_kSlL1, Dv.e_kSlL2, Dv.e_kSlL3, Dv.e_kSlL4, Dv.e_Prs0, Dv.e_Prs1, Dv.e_kPr1, Dv.e_kPr2, Dv.e_kPr3, Dv.e_Di, Dv.e_kDi, Dv.e_kDi2, Dv.e_ks0, Dv.e_ks1, Dv.e_ks2, Dv.e_NewD, Dv.e_Mu, Dv.e_kMu1, Dv.e_kMu2, Dv.e_kMu3, Dv.e_kMu4, Dv.e_kMu5, Dv.e_PD, Dv.e_kPD1, Dv.e_kPD2, Dv.e_kPD3, Dv.e_kPD4, Dv.e_kPD5, Dv.e_iS, Option.bind_some, Option.map_some, Dv.e_AI, Dv.e_kAI1, Dv.e_kAI2, Dv.e_kAI3, Dv.e_AL, Dv.e_kAL1, Dv.e_kAL2, Dv.e_kAL3, Dv.e_kAL4, Dv.e_Raise, Dv.e_Fld, Dv.e_kFld, Dv.e_kFld2, Dv.e_SF, Dv.e_kSF1, Dv.e_kSF2, Dv.e_kSF3, Dv.e_Me, Dv.e_kMe, Dv.e_kMe1, Dv.e_kMe2, Dv.e_Mk, Dv.e_kMk, Dv.e_kMk2, Dv.e_kMk3, Dv.e_vrt, Dv.e_vnx, Dv.e_ver, Dv.e_kOut, Dv.e_outs0, Dv.e_outs2, Dv.plain_int, Dv.plain_bool, Dv.plain_none, Dv.plain_str, Dv.flat_none, Dv.flat_bool, Dv.flat_int, Dv.flat_str, Dv.plain_l, Dv.plain_t, Dv.eq_ss, Dv.eq_ii, Dv.eq_si, Dv.eq_sn, Dv.eq_sb, Dv.eq_st, Dv.eq_sl, Dv.mem_nil, Dv.mem_cons, Dv.gIn_l, Dv.gIn_t, Dv.gNi_l, Dv.gNi_t, List.all_cons, List.all_nil, Bool.or_false, Bool.false_or, Dv.gDiv_int, Dv.gMod_int, Dv.gMul_int, Dv.ite_or, Dv.gI_int, Dv.divB, Dv.modB, Dv.mulB, Dv.gAdd_i, Dv.gSub_i, Dv.gLt_i, Dv.gLe_i, Dv.gGt_i, Dv.gGe_i, Dv.gNeg_i, Dv.gEqI_i, Dv.gNeI_i, Dv.gEqS_s, Dv.gNeS_s, Dv.gMax2_i, Dv.gMin2_i, Dv.gInt_b, Dv.gInt_i, Dv.len_l, Dv.len_t, Dv.len_f, Dv.not_dec, Dv.st0, Dv.isTy, Dv.strOk_of, Dv.flat_of, Dv.e_ListRg, Dv.e_kListRg, Dv.e_SortedSet, Dv.e_kSortedSet, Dv.gIsN_e, Dv.gNotN_e, Dv.isN_non, Dv.isN_bl, Dv.isN_int, Dv.isN_str, Dv.isN_l, Dv.isN_t, Dv.isN_d, Dv.isN_e, Dv.isN_r, Dv.isN_i, Dv.cat_l, Dv.cat_t, Dv.cnt_l, Dv.cntD_nil, Dv.cntD_cons, Dv.idx_l, Dv.ixD_nil, Dv.ixD_cons, Dv.eq_bb, Dv.ix_n, Dv.ixT_n, Dv.ix_i, Dv.ixT_i, Dv.ix_m1, Dv.ixT_m1, Dv.tup_l, Dv.tup_t, Dv.e_FA, Dv.e_kFA1, Dv.e_kFA1', Dv.e_kFA2, Dv.e_kFA3, Dv.e_kFA4, Dv.e_kFA5, Dv.cput_same, Dv.cput_cput, Dv.items_t, Dv.items_l, Dv.e_SI, Dv.e_kSI0, Dv.e_kSI1, Dv.e_kSI2, Dv.e_kSI3, Dv.e_kSI4, Dv.e_kSI5, Dv.fget_nil, Dv.fget_cons, Dv.fput_nil, Dv.fput_cons, Dv.all_b, Dv.all_m, Dv.sum_i, List.getElem?_cons_zero, List.getElem?_cons_succ, Int.ofNat_eq_natCast, Int.cast_ofNat_Int, Int.reduceToNat, Dv.e_Bm, Dv.e_kBm1, Dv.e_kBm1', Dv.e_kBm2, Dv.e_kBm3, Dv.isRd_l, Dv.isRd_s, Dv.e_Try, Dv.e_trnx, Dv.e_trrt, Dv.e_trbk, Dv.e_trct, Dv.e_trer, Dv.e_kTr, Dv.lkB_nil, Dv.lkB_cons, Dv.isEr_e, Dv.e_Lam, Dv.e_kLam, Dv.e_wipe0, Dv.e_wipe1, Dv.e_Act, Dv.e_kAct, Dv.e_kActE, Dv.e_lamS, Dv.e_kLs, Dv.e_kLsE, Dv.gKin_s, Dv.gKix_s, Dv.litD_t, Dv.litD_i, Dv.litD_n, Dv.isa_i, Dv.isa_s, Dv.isa_b, Dv.isa_n, Dv.isa_t, Dv.isa_l, Dv.isa_d, Dv.isa_dt, Dv.e_GO, Dv.e_GO1, Dv.e_GO2, Dv.e_GO3, Dv.e_GO4, Dv.e_GO5, Dv.kOf_str, Dv.kOf_int, Dv.lk_cons, Dv.lk_nil, Dv.e_Par, Dv.e_kPar, Dv.merge_nd, Dv.gDGet_d, Dv.gDIn_d, e_RevT, e_kRevT, e_RevL, e_kRevL])
local macro_rules | `(tactic| walk_at "call") => `(tactic| refine Dv.r_call _ _ rfl rfl (by decide) rfl rfl ?_)

def m0 : List Dt → Nat
  | .tuple es :: _ => es.length
  | _ => 0
def goodRow (m : Nat) : Dt → Bool
  | .tuple es => decide (1 ≤ es.length ∧ es.length ≤ 5) && (decide (es.length = m) && es.all fun d => isBt d 1 1000000)
  | _ => false
theorem goodRow_iff {m : Nat} {es : List Dt} : goodRow m (.tuple es) = true ↔ (1 ≤ es.length ∧ es.length ≤ 5) ∧ es.length = m ∧ es.all (fun d => isBt d 1 1000000) = true := by
  show (decide _ && (decide _ && _)) = true ↔ _
  rw [Bool.and_eq_true, Bool.and_eq_true, decide_eq_true_iff, decide_eq_true_iff]
theorem rowB_iff {m : Int} {es : List Dt} : rowB (.tuple es) m = true ↔ (es.length : Int) = m ∧ es.all (fun d => isBt d 1 1000000) = true := by
  show (decide _ && _) = true ↔ _
  rw [Bool.and_eq_true, decide_eq_true_iff]
theorem costs0_good (ds : List Dt) : costs0 ds = ds.all (goodRow (m0 ds)) := by
  cases ds with
  | nil => rfl
  | cons r rs =>
    cases r
    all_goals try rfl
    rename_i es
    rw [Bool.eq_iff_iff, List.all_eq_true]
    show (decide _ && _) = true ↔ _
    rw [Bool.and_eq_true, decide_eq_true_iff, List.all_eq_true]
    constructor
    · rintro ⟨h1, h2⟩ d hd
      have h3 := h2 d hd
      cases d <;> first | (cases h3; done) | skip
      rename_i fs
      obtain ⟨h4, h5⟩ := rowB_iff.mp h3
      exact goodRow_iff.mpr ⟨by omega, by show fs.length = es.length; omega, h5⟩
    · intro h
      refine ⟨(goodRow_iff.mp (h _ List.mem_cons_self)).1, fun d hd => ?_⟩
      have h3 := h d hd
      cases d <;> first | (cases h3; done) | skip
      rename_i fs
      obtain ⟨h4, h5, h6⟩ := goodRow_iff.mp h3
      have h5 : fs.length = es.length := h5
      exact rowB_iff.mpr ⟨by omega, h6⟩
theorem costsB_t (ds : List Dt) : costsB (.tuple ds) = (decide (ds.length ≤ 120) && ds.all (goodRow (m0 ds))) := by
  show (_ && costs0 ds) = _
  rw [costs0_good]
theorem costs_bad {ds : List Dt} {i : Nat} {d : Dt} (h : ds[i]? = some d) (hb : goodRow (m0 ds) d = false) : costsB (.tuple ds) = false := by
  rw [costsB_t, show ds.all (goodRow (m0 ds)) = false from ?_, Bool.and_false]
  rw [List.all_eq_false]
  exact ⟨d, List.mem_of_getElem? h, by rw [hb]; decide⟩
theorem m0_at {ds : List Dt} {i : Nat} {es : List Dt} (h : ds[i]? = some (.tuple es)) (hi : ∀ j d, j < i → ds[j]? = some d → goodRow (m0 ds) d = true) : ∃ e0, ds[0]? = some (.tuple e0) ∧ m0 ds = e0.length := by
  cases ds with
  | nil => cases h
  | cons r rs =>
    cases i with
    | zero =>
      cases h
      exact ⟨es, rfl, rfl⟩
    | succ i =>
      have := hi 0 r (by omega) rfl
      cases r <;> first | (cases this; done) | skip
      exact ⟨_, rfl, rfl⟩
theorem ones {l : List Dt} (h : l.length ≤ 100000) : gNe (.list (l.map fun _ => .int 1)) (.list []) = some (.bool (!l.isEmpty)) := by
  rw [show l.map (fun _ => Dt.int 1) = (l.map fun _ => (1 : Int)).map Dt.int from by rw [List.map_map]; rfl, ne_l0 (Sd.intsL (by rw [List.length_map]; exact h)).plain]
  cases l <;> rfl
theorem none_bad {ds : List Dt} {p : Dt → Bool} : (ds.filter fun d => !p d).isEmpty = ds.all p := by
  induction ds with
  | nil => rfl
  | cons d r ih =>
    rw [List.filter_cons, List.all_cons]
    cases p d with
    | true => exact ih
    | false => rfl
def S_isE : Fs := pS fun ds P _ => ∃ x m, ds = [x, .int m] ∧ Sd x ∧ (∀ es, x = .tuple es → es.length ≤ 1000) ∧ P (.bool (endsB x m)) []
theorem cut_mem {ds : List Dt} {lo hi : Option Int} {d : Dt} (h : d ∈ cutP ds lo hi) : d ∈ ds := List.mem_of_mem_drop (List.mem_of_mem_take h)
theorem cut_len {ds : List Dt} {lo hi : Option Int} : (cutP ds lo hi).length ≤ ds.length := by
  unfold cutP
  rw [List.length_take, List.length_drop]
  omega
theorem gd_row {rows : List (List Int)} {n : Nat} (hr : Rows rows n) {d : Dt} (h : d ∈ rowsD rows) : ∃ ns : List Int, d = .tuple (ns.map .int) ∧ 1 ≤ ns.length ∧ ns.length ≤ 5 ∧ ∀ i ∈ ns, 1 ≤ i ∧ i ≤ 1000000 := by
  obtain ⟨r, hm, rfl⟩ := List.mem_map.mp h
  obtain ⟨h1, h2⟩ := hr.row r hm
  have := hr.n1
  have := hr.n5
  exact ⟨r, rfl, by omega, by omega, h2⟩
theorem gd_num {i : Int} (h : 1 ≤ i ∧ i ≤ 1000000) : Gd 32 0 (.int i) := Gd.int (abs_lt (by omega) (by omega))
theorem gd_rowT {ns : List Int} (h1 : ns.length ≤ 5) (h : ∀ i ∈ ns, 1 ≤ i ∧ i ≤ 1000000) : Gd 174 1 (.tuple (ns.map .int)) :=
  Gd.ints (fun i m => by have := h i m; exact abs_lt (by omega) (by omega)) h1
def S_odd : Fs := pS fun ds P _ => ∃ st n, ds = [st, .int n] ∧ StOk st ∧ 1 ≤ n ∧ n ≤ 1000000 ∧ ∀ x st', Gd 330 1 x → StOk st' → P x [st']
def S_bent : Fs := pS fun ds P _ => ∃ st rows n, ds = [st, .tuple (rowsD rows)] ∧ StOk st ∧ Rows rows n ∧ rows.length ≤ 9 ∧ ∀ x st', Gd 230000 4 x → (∀ es, x = .tuple es → es.length ≤ 400) → StOk st' → P x [st']
def S_lends : Fs := pS fun ds P _ => ∃ st m, ds = [st, .int m] ∧ StOk st ∧ 0 ≤ m ∧ m ≤ 400 ∧ ∀ x st', Gd 60000 1 x → (∀ es, x = .tuple es → es.length ≤ 1000) → StOk st' → P x [st']
section
variable {P : Program} {w : World} {K : PySem.W.Frag} {mg : Str → Option Value} {base : Heap} {TL : Tbs}
theorem sc_law_whole : FnScope ["_law_thing", "_law_low", "_law_high"] ["_law_thing", "_law_low", "_law_high"] (defScope slaw_whole) := ⟨rfl, rfl, rfl, by decide +kernel, rfl, by decide +kernel, by decide +kernel⟩
theorem v_law_whole (T : Tw fa fn ts xb w K mg) : GFn P w K mg base 1 (He.fAd K dlaw_whole.at_) ["_law_thing", "_law_low", "_law_high"] (spV K TL 3 [] S_bt) := by
  obtain ⟨fd, F⟩ := T.says.def_ 15 (d := dlaw_whole) rfl
  refine okV (fun i => ([] : List Nat).contains i) [] _ F sc_law_whole (fun _ _ _ _ _ _ us hl => match us, hl with | [_, _, _], _ => rfl) rfl rfl (by decide) ⟨_, fun cdv hcdv A outer s H E hr => have hu := hu_of hr.rm; have hu65 := hu65_of hr.rm; (vss_one (vs_ret (vx_and (vx_isa (T := "int") (by decide +kernel) (T.b 72) (T.b 71) (by decide +kernel) (vb_of (vx_var (pv 0)))) (vx_and (vx_not (vx_isa (T := "bool") (by decide +kernel) (T.b 72) (T.b 69) (by decide +kernel) (vb_of (vx_var (pv 0))))) (vx_one (vx_chain oLe oLe (vx_var (pv 1)) (vx_var (pv 0)) (vx_var (pv 2)))))))), fun ds cs Q Er hl h => ?_⟩
  clear hl
  obtain ⟨x, lo, hi, rfl, hp, k⟩ := h
  have ht := hp.ty
  cases x <;> first | (cases ht; done) | skip
  all_goals walk_at "vrd"
  all_goals try exact k
  split
  · rename_i c
    exact dt_eq k (by rw [bt_range]; simp [c])
  · rename_i c
    exact dt_eq k (by rw [bt_range]; simp [c])
theorem sc_law_is_costs : FnScope ["_law_thing", "_law_row", "_law_number"] ["_law_thing"] (defScope slaw_is_costs) := ⟨rfl, rfl, rfl, by decide +kernel, rfl, by decide +kernel, by decide +kernel⟩
theorem v_law_is_costs (T : Tw fa fn ts xb w K mg) : GFn P w K mg base 2 (He.fAd K dlaw_is_costs.at_) ["_law_thing"] (spV K TL 1 [] (S_p1 costsB)) := by
  obtain ⟨fd, F⟩ := T.says.def_ 16 (d := dlaw_is_costs) rfl
  refine okV (fun i => ([] : List Nat).contains i) [] _ F sc_law_is_costs (fun _ _ _ _ _ _ us hl => match us, hl with | [_], _ => rfl) rfl rfl (by decide) ⟨_, fun cdv hcdv A outer s H E hr => have hu := hu_of hr.rm; have hu65 := hu65_of hr.rm; (vss_cons (vs_if (vt_w (vw_or (vt_not (vt_val (vx_isa (T := "tuple") (by decide +kernel) (T.b 72) (T.b 83) (by decide +kernel) (vb_of (vx_var (pv 0)))))) (vw_or1 (vt_cmp oGt (vx_b1 cLenV (vb_of (vx_var (pv 0))) (fun h1 h2 => pe_callB h1 (by rfl) (T.b 73) (by decide +kernel) h2)) (vb_of (vx_int pe_int)) (nomark _))))) (vss_one (vs_ret (vx_bl pe_bl))) vss_nil)
      (vss_cons (vs_for (vi_tup (vx_var (pv 0)) (fun h => piT K h)) (vg_name (pg_name (i := 1) sc_law_is_costs.nd rfl (Or.inl rfl))) (vss_cons (vs_if (vt_w (vw_or (vt_not (vt_val (vx_isa (T := "tuple") (by decide +kernel) (T.b 72) (T.b 83) (by decide +kernel) (vb_of (vx_var (pv 1)))))) (vw_or (vt_not (vt_chain oLe oLe (vx_int pe_int) (vx_b1 cLenV (vb_of (vx_var (pv 1))) (fun h1 h2 => pe_callB h1 (by rfl) (T.b 73) (by decide +kernel) h2)) (vx_int pe_int))) (vw_or1 (vt_cmp oNeI (vx_b1 cLenV (vb_of (vx_var (pv 1))) (fun h1 h2 => pe_callB h1 (by rfl) (T.b 73) (by decide +kernel) h2)) (vb_of (vx_b1 cLenV (vb_of (vx_ix iSeq (vx_var (pv 0)) (vx_int pe_int))) (fun h1 h2 => pe_callB h1 (by rfl) (T.b 73) (by decide +kernel) h2))) (nomark _)))))) (vss_one (vs_ret (vx_bl pe_bl))) vss_nil)
      (vss_one (vs_if (vt_cmp (oNe hr.rm.units) (vx_of (vn_lc (vs := [2]) (g := gName 2) (vi_tup (vx_var (pv 1)) (fun h => piT K h)) (dgw_name (by decide) rfl rfl) rfl (fun {wi} hi => pe_lc (own := [("_law_number", 2)]) (g := gName 2) rfl sc_law_is_costs.nd hi (blkOk_by (N := ["_law_thing", "_law_row", "_law_number"]) (sc := defScope slaw_is_costs) (by decide +kernel)) (fun _ _ _ _ _ => pg_name (i := 2) sc_law_is_costs.nd rfl (Or.inl rfl)) (fun _ _ _ _ _ => (vts_one (vt_not (vt_val (vx_call (v_law_whole T) (hr.mono (by decide)) (T.g 15) pn (vr_cons (vl_val (vx_var (pv 2))) (vr_cons (vl_val (vx_int pe_int)) (vr_cons (vl_val (vx_int pe_int)) vr_nil)))))))) (fun _ _ _ _ _ => VX.can (vx_int pe_int))))) (vb_of (vx_of (vn_lst va_nil))) (nomark _)) (vss_one (vs_ret (vx_bl pe_bl))) vss_nil))) (fun h1 h2 h3 => ps_for (passes_of rfl) rfl h1 h2 h3))
      (vss_one (vs_ret (vx_bl pe_bl))))), fun ds cs Q Er hl h => ?_⟩
  clear hl
  obtain ⟨x, rfl, hp, k⟩ := h
  have ht := hp.ty
  cases x <;> first | (cases ht; done) | skip
  all_goals walk_at "vrd"
  all_goals try exact k
  rename_i ds
  obtain ⟨hlen, hps⟩ := hp.tup_in
  split
  · rename_i c
    refine dt_eq k ?_
    show _ = Dt.bool (decide _ && _)
    rw [decide_eq_false (by omega)]
    rfl
  rename_i c
  have hc : ds.length ≤ 120 := by omega
  refine r_for (fun i s => ∃ x2 x3, s = ⟨[some (.tuple ds), x2, x3], cs⟩ ∧ ∀ j d, j < i → ds[j]? = some d → goodRow (m0 ds) d = true) ⟨_, _, rfl, fun j d hj => by omega⟩ ?_ ?_
  · rintro i s d hd ⟨x2, x3, rfl, hi⟩
    have hmem := List.mem_of_getElem? hd
    have hq := hps d hmem
    have kf : goodRow (m0 ds) d = false → Q (.bool false) [] cs := fun hb => dt_eq k (by rw [costs_bad hd hb])
    have ht2 := hq.ty
    cases d <;> first | (cases ht2; done) | skip
    all_goals walk_at "vrd"
    all_goals try exact kf rfl
    rename_i es
    obtain ⟨hel, hes⟩ := hq.tup_in
    split
    · split
      · rename_i c1 c2
        obtain ⟨e0, h0, hm⟩ := m0_at hd hi
        rw [h0]
        walk_at "vrd"
        split
        · rename_i c3
          refine r_mapF (fun d => !isBt d 1 1000000) (fun _ => .int 1) rfl (by omega) (fun d hd R N hR hN => ?_) ?_
          · walk_at "vrd"
            walk_at "call"
            refine ⟨d, _, _, rfl, hes d hd, ?_⟩
            walk_at "vrd"
            cases hb : isBt d 1 1000000 with
            | true => exact hN (by rw [hb]; rfl)
            | false => exact hR (by rw [hb]; rfl)
          · walk_at "vrd"
            rw [ones (by have := List.length_filter_le (fun d => !isBt d 1 1000000) es; omega), none_bad]
            walk_at "vrd"
            cases hb : es.all fun d => isBt d 1 1000000 with
            | false =>
              walk_at "vrd"
              exact kf (Bool.eq_false_iff.mpr fun z => by have := (goodRow_iff.mp z).2.2; rw [hb] at this; cases this)
            | true =>
              walk_at "vrd"
              refine ⟨_, _, rfl, fun j d hj e => ?_⟩
              by_cases ji : j < i
              · exact hi j d ji e
              · obtain rfl : j = i := by omega
                rw [hd] at e
                cases e
                exact goodRow_iff.mpr ⟨by omega, by omega, hb⟩
        · rename_i c3
          exact kf (Bool.eq_false_iff.mpr fun z => by have := (goodRow_iff.mp z).2.1; omega)
      · rename_i c1 c2
        exact kf (Bool.eq_false_iff.mpr fun z => by have := (goodRow_iff.mp z).1; omega)
    · rename_i c1
      exact kf (Bool.eq_false_iff.mpr fun z => by have := (goodRow_iff.mp z).1; omega)
  · rintro s ⟨x2, x3, rfl, hi⟩
    walk_at "vrd"
    refine dt_eq k ?_
    rw [costsB_t, decide_eq_true hc, Bool.true_and]
    refine congrArg Dt.bool (List.all_eq_true.mpr fun d hd => ?_).symm
    obtain ⟨j, hj⟩ := List.mem_iff_getElem?.mp hd
    exact hi j d (List.getElem?_eq_some_iff.mp hj).1 hj
theorem sc_law_is_ends : FnScope ["_law_thing", "_law_many", "_law_end"] ["_law_thing", "_law_many"] (defScope slaw_is_ends) := ⟨rfl, rfl, rfl, by decide +kernel, rfl, by decide +kernel, by decide +kernel⟩
theorem v_law_is_ends (T : Tw fa fn ts xb w K mg) : GFn P w K mg base 2 (He.fAd K dlaw_is_ends.at_) ["_law_thing", "_law_many"] (spV K TL 2 [] S_isE) := by
  obtain ⟨fd, F⟩ := T.says.def_ 17 (d := dlaw_is_ends) rfl
  refine okV (fun i => ([] : List Nat).contains i) [] _ F sc_law_is_ends (fun _ _ _ _ _ _ us hl => match us, hl with | [_, _], _ => rfl) rfl rfl (by decide) ⟨_, fun cdv hcdv A outer s H E hr => have hu := hu_of hr.rm; have hu65 := hu65_of hr.rm; (vss_cons (vs_if (vt_w (vw_or (vt_not (vt_val (vx_isa (T := "tuple") (by decide +kernel) (T.b 72) (T.b 83) (by decide +kernel) (vb_of (vx_var (pv 0)))))) (vw_or1 (vt_cmp (oNe hr.rm.units) (vx_of (vn_lc (vs := [2]) (g := gName 2) (vi_tup (vx_var (pv 0)) (fun h => piT K h)) (dgw_name (by decide) rfl rfl) rfl (fun {wi} hi => pe_lc (own := [("_law_end", 2)]) (g := gName 2) rfl sc_law_is_ends.nd hi (blkOk_by (N := ["_law_thing", "_law_many", "_law_end"]) (sc := defScope slaw_is_ends) (by decide +kernel)) (fun _ _ _ _ _ => pg_name (i := 2) sc_law_is_ends.nd rfl (Or.inl rfl)) (fun _ _ _ _ _ => (vts_one (vt_not (vt_val (vx_call (v_law_whole T) (hr.mono (by decide)) (T.g 15) pn (vr_cons (vl_val (vx_var (pv 2))) (vr_cons (vl_val (vx_int pe_int)) (vr_cons (vl_val (vx_op oSub (vx_var (pv 1)) (vb_of (vx_int pe_int)))) vr_nil)))))))) (fun _ _ _ _ _ => VX.can (vx_int pe_int))))) (vb_of (vx_of (vn_lst va_nil))) (nomark _))))) (vss_one (vs_ret (vx_bl pe_bl))) vss_nil)
      (vss_one (vs_ret (vx_cmp (oEq hr.rm.units) (vx_of (vn_b1 cListV (vb_of (vx_var (pv 0))) (fun h1 h2 => pe_callTy h1 (by rfl) (T.b 74) (by decide +kernel) h2))) (vb_of (vx_of (vn_sortedSet (T.b 80) (T.b 79) (vx_var (pv 0))))) (nomark _))))), fun ds cs Q Er hl h => ?_⟩
  clear hl
  obtain ⟨x, m, rfl, hp, hx, k⟩ := h
  have ht := hp.ty
  cases x <;> first | (cases ht; done) | skip
  all_goals walk_at "vrd"
  all_goals try exact k
  rename_i ds
  obtain ⟨hlen, hps⟩ := hp.tup_in
  have hx := hx ds rfl
  refine r_mapF (fun d => !isBt d 0 (m - 1)) (fun _ => .int 1) rfl (by omega) (fun d hd R N hR hN => ?_) ?_
  · walk_at "vrd"
    walk_at "call"
    refine ⟨d, _, _, rfl, hps d hd, ?_⟩
    walk_at "vrd"
    cases hb : isBt d 0 (m - 1) with
    | true => exact hN (by rw [hb]; rfl)
    | false => exact hR (by rw [hb]; rfl)
  · walk_at "vrd"
    rw [ones (by have := List.length_filter_le (fun d => !isBt d 0 (m - 1)) ds; omega), none_bad]
    walk_at "vrd"
    cases hb : ds.all fun d => isBt d 0 (m - 1) with
    | false =>
      walk_at "vrd"
      refine dt_eq k ?_
      show _ = Dt.bool (_ && _)
      rw [hb]
      rfl
    | true =>
      obtain ⟨ns, rfl, hns⟩ := bts_int hb
      walk_at "vrd"
      rw [List.length_map] at hx
      have hul : (usort ns).length ≤ 100000 := by
        have := usort_len ns
        omega
      refine ⟨hx, ?_⟩
      rw [eq_p (Sd.intsL (by omega)).plain (Sd.intsL hul).plain, eqL_ints]
      walk_at "vrd"
      refine dt_eq k ?_
      show _ = Dt.bool (_ && (match intsOf (ns.map .int) with | some ns => decide (ns = usort ns) | none => false))
      rw [hb, intsOf_map]
      rfl
theorem sc_law_odd_number : FnScope ["_law_state", "_law_number"] ["_law_state", "_law_number"] (defScope slaw_odd_number) := ⟨rfl, rfl, rfl, by decide +kernel, rfl, by decide +kernel, by decide +kernel⟩
theorem v_law_odd_number (T : Tw fa fn ts xb w K mg) : GFn P w K mg base 3 (He.fAd K dlaw_odd_number.at_) ["_law_state", "_law_number"] (spV K TL 2 [0] S_odd) := by
  obtain ⟨fd, F⟩ := T.says.def_ 18 (d := dlaw_odd_number) rfl
  refine okV (fun i => ([0] : List Nat).contains i) [0] _ F sc_law_odd_number (fun _ _ _ _ _ _ us hl => match us, hl with | [_, _], _ => rfl) rfl rfl (by decide) ⟨_, fun cdv hcdv A outer s H E hr => have hu := hu_of hr.rm; have hu65 := hu65_of hr.rm; (vss_one (vs_ret (vx_call (v_law_pick T) (hr.mono (by decide)) (T.g 11) (fun σ => passAt (takes_of rfl rfl rfl rfl) σ) (vr_cons (vl_slot (pv 0)) (vr_cons (vl_val (vx_of (vn_lst (va_cons (vx_int pe_int) (va_cons (vx_un uNeg (vx_int pe_int)) (va_cons (vx_op oAdd (vx_var (pv 1)) (vb_of (vx_int pe_int))) (va_cons (vx_int pe_int) (va_cons (vx_cmp oEqI (vx_var (pv 1)) (vb_of (vx_int pe_int)) (nomark _)) (va_cons (vx_non pe_non) (va_cons (vx_ba cStrV (va_cons (vx_var (pv 1)) va_nil) (fun h1 h2 => pe_callTy h1 (by rfl) (T.b 81) (by decide +kernel) h2)) (va_cons (vx_tup (va_cons (vx_var (pv 1)) va_nil)) (va_cons (vx_op oPow (vx_int pe_int) (vb_of (vx_int pe_int))) va_nil)))))))))))) vr_nil))))), fun ds cs Q Er hl h => ?_⟩
  clear hl
  obtain ⟨st, n, rfl, hst, h1, h2, k⟩ := h
  walk_at "vrd"
  have hb : n.natAbs < 10 ^ 31 := abs_lt (by omega) (by omega)
  rw [str_i hb]
  walk_at "vrd"
  rw [show gPow (.int 10) (.int 30) = some (.int 1000000000000000000000000000000) from rfl]
  walk_at "vrd"
  walk_at "call"
  refine ⟨_, _, rfl, hst, by simp, by simp, fun x st hx hst => ?_⟩
  walk_at "vrd"
  refine k x st ?_ hst
  simp only [List.mem_cons, List.not_mem_nil, or_false] at hx
  rcases hx with rfl | rfl | rfl | rfl | rfl | rfl | rfl | rfl | rfl
  · exact (Gd.int (abs_lt (by omega) (by omega))).mono
  · exact (Gd.int (abs_lt (by omega) (by omega))).mono
  · exact (Gd.int (abs_lt (by omega) (by omega))).mono
  · exact (Gd.int (abs_lt (by omega) (by omega))).mono
  · exact (Gd.bool _).mono
  · exact Gd.none.mono
  · exact (Gd.strI hb).mono
  · exact (Gd.ints (ns := [n]) (m := 1) (fun i m => by cases List.mem_singleton.mp m; exact hb) (by simp)).mono
  · exact (Gd.int (abs_lt (by omega) (by omega))).mono
theorem sc_law_bent_costs : FnScope ["_law_state", "_law_costs_here", "_law_some", "_law_at", "_law_row", "_law_way", "_law_place", "_law_bent"] ["_law_state", "_law_costs_here"] (defScope slaw_bent_costs) := ⟨rfl, rfl, rfl, by decide +kernel, rfl, by decide +kernel, by decide +kernel⟩
theorem v_law_bent_costs (T : Tw fa fn ts xb w K mg) : GFn P w K mg base 4 (He.fAd K dlaw_bent_costs.at_) ["_law_state", "_law_costs_here"] (spV K TL 2 [0] S_bent) := by
  obtain ⟨fd, F⟩ := T.says.def_ 19 (d := dlaw_bent_costs) rfl
  refine okV (fun i => ([0] : List Nat).contains i) [0] _ F sc_law_bent_costs (fun _ _ _ _ _ _ us hl => match us, hl with | [_, _], _ => rfl) rfl rfl (by decide) ⟨_, fun cdv hcdv A outer s H E hr => have hu := hu_of hr.rm; have hu65 := hu65_of hr.rm; (vss_cons (vs_if (vt_w (vw_or (vt_cmp (oEq hr.rm.units) (vx_var (pv 1)) (vb_of (vx_tup va_nil)) (nomark _)) (vw_or1 (vt_cmp oEqI (vx_call (v_law_take T) (hr.mono (by decide)) (T.g 10) (fun σ => passAt (takes_of rfl rfl rfl rfl) σ) (vr_cons (vl_slot (pv 0)) (vr_cons (vl_val (vx_int pe_int)) vr_nil))) (vb_of (vx_int pe_int)) (nomark _))))) (vss_cons (vs_set (i := 2) (vx_of (vn_lst (va_cons (vx_non pe_non) (va_cons (vx_of (vn_lst va_nil)) (va_cons (vx_of (vn_b1 cListV (vb_of (vx_var (pv 1))) (fun h1 h2 => pe_callTy h1 (by rfl) (T.b 74) (by decide +kernel) h2))) (va_cons (vx_tup (va_cons (vx_tup va_nil) va_nil)) (va_cons (vx_tup (va_cons (vx_int pe_int) va_nil)) (va_cons (vx_tup (va_cons (vx_tup (va_cons (vx_int pe_int) (va_cons (vx_int pe_int) (va_cons (vx_int pe_int) (va_cons (vx_int pe_int) (va_cons (vx_int pe_int) (va_cons (vx_int pe_int) va_nil))))))) va_nil)) (va_cons (vx_op oRepT (vx_var (pv 1)) (vb_of (vx_int pe_int))) (va_cons (vx_int pe_int) (va_cons (vx_str pe_str) va_nil))))))))))) (fun h => ps_set (i := 2) sc_law_bent_costs.nd rfl (Or.inl rfl) h))
      (vss_one (vs_ret (vx_call (v_law_pick T) (hr.mono (by decide)) (T.g 11) (fun σ => passAt (takes_of rfl rfl rfl rfl) σ) (vr_cons (vl_slot (pv 0)) (vr_cons (vl_val (vx_var (pv 2))) vr_nil)))))) vss_nil)
      (vss_cons (vs_set (i := 3) (vx_call (v_law_take T) (hr.mono (by decide)) (T.g 10) (fun σ => passAt (takes_of rfl rfl rfl rfl) σ) (vr_cons (vl_slot (pv 0)) (vr_cons (vl_val (vx_b1 cLenV (vb_of (vx_var (pv 1))) (fun h1 h2 => pe_callB h1 (by rfl) (T.b 73) (by decide +kernel) h2))) vr_nil))) (fun h => ps_set (i := 3) sc_law_bent_costs.nd rfl (Or.inl rfl) h))
      (vss_cons (vs_set (i := 4) (vx_ix iSeq (vx_var (pv 1)) (vx_var (pv 3))) (fun h => ps_set (i := 4) sc_law_bent_costs.nd rfl (Or.inl rfl) h))
      (vss_cons (vs_set (i := 5) (vx_call (v_law_take T) (hr.mono (by decide)) (T.g 10) (fun σ => passAt (takes_of rfl rfl rfl rfl) σ) (vr_cons (vl_slot (pv 0)) (vr_cons (vl_val (vx_int pe_int)) vr_nil))) (fun h => ps_set (i := 5) sc_law_bent_costs.nd rfl (Or.inl rfl) h))
      (vss_cons (vs_if (vt_cmp oLt (vx_var (pv 5)) (vb_of (vx_int pe_int)) (nomark _)) (vss_cons (vs_set (i := 6) (vx_call (v_law_take T) (hr.mono (by decide)) (T.g 10) (fun σ => passAt (takes_of rfl rfl rfl rfl) σ) (vr_cons (vl_slot (pv 0)) (vr_cons (vl_val (vx_b1 cLenV (vb_of (vx_var (pv 4))) (fun h1 h2 => pe_callB h1 (by rfl) (T.b 73) (by decide +kernel) h2))) vr_nil))) (fun h => ps_set (i := 6) sc_law_bent_costs.nd rfl (Or.inl rfl) h))
      (vss_one (vs_set (i := 7) (vx_op oCatT (vx_op oCatT (vx_slT (vx_var (pv 4)) vo_none (vo_some (vx_var (pv 6)))) (vb_of (vx_tup (va_cons (vx_call (v_law_odd_number T) (hr.mono (by decide)) (T.g 18) (fun σ => passAt (takes_of rfl rfl rfl rfl) σ) (vr_cons (vl_slot (pv 0)) (vr_cons (vl_val (vx_ix iSeq (vx_var (pv 4)) (vx_var (pv 6)))) vr_nil))) va_nil)))) (vb_of (vx_slT (vx_var (pv 4)) (vo_some (vx_op oAdd (vx_var (pv 6)) (vb_of (vx_int pe_int)))) vo_none))) (fun h => ps_set (i := 7) sc_law_bent_costs.nd rfl (Or.inl rfl) h)))) (vss_one (vs_set (i := 7) (vx_ix iSeq (vx_of (vn_lst (va_cons (vx_slT (vx_var (pv 4)) (vo_some (vx_int pe_int)) vo_none) (va_cons (vx_op oCatT (vx_var (pv 4)) (vb_of (vx_tup (va_cons (vx_int pe_int) va_nil)))) (va_cons (vx_of (vn_b1 cListV (vb_of (vx_var (pv 4))) (fun h1 h2 => pe_callTy h1 (by rfl) (T.b 74) (by decide +kernel) h2))) (va_cons (vx_non pe_non) va_nil)))))) (vx_op oSub (vx_var (pv 5)) (vb_of (vx_int pe_int)))) (fun h => ps_set (i := 7) sc_law_bent_costs.nd rfl (Or.inl rfl) h))))
      (vss_one (vs_ret (vx_op oCatT (vx_op oCatT (vx_slT (vx_var (pv 1)) vo_none (vo_some (vx_var (pv 3)))) (vb_of (vx_tup (va_cons (vx_var (pv 7)) va_nil)))) (vb_of (vx_slT (vx_var (pv 1)) (vo_some (vx_op oAdd (vx_var (pv 3)) (vb_of (vx_int pe_int)))) vo_none)))))))))), fun ds cs Q Er hl h => ?_⟩
  clear hl
  obtain ⟨st, rows, n, rfl, hst, hr, hl9, k⟩ := h
  walk_at "vrd"
  have gl : (rowsD rows).length ≤ 9 := by rw [rowsD_len]; exact hl9
  have ga : ∀ d ∈ rowsD rows, Gd 174 1 d := fun d hd => by
    obtain ⟨ns, rfl, _, h2, h3⟩ := gd_row hr hd
    exact gd_rowT h2 h3
  have gc : Gd 1588 2 (.tuple (rowsD rows)) := Gd.tup (m := 9) ga gl
  obtain ⟨z, ez, hz1, hz2⟩ : ∃ z, gRepT (.tuple (rowsD rows)) (.int 41) = some (.tuple z) ∧ z.length ≤ 369 ∧ ∀ d ∈ z, Gd 174 1 d := by
    refine ⟨_, rep_t ⟨by decide, by decide, by omega⟩, ?_, fun d hd => ?_⟩
    · rw [List.length_flatten, List.map_replicate, List.sum_replicate_nat]
      show 41 * _ ≤ 369
      omega
    · obtain ⟨l, hl, hd⟩ := List.mem_flatten.mp hd
      exact ga d (List.eq_of_mem_replicate hl ▸ hd)
  have fin : ∀ x st, x ∈ [Dt.none, .list [], .list (rowsD rows), .tuple [.tuple []], .tuple [.int 1], .tuple [.tuple [.int 1, .int 2, .int 3, .int 4, .int 5, .int 6]], .tuple z, .int 5, .str "costs"] → StOk st → Q x [st] cs := by
    intro x st hx hst
    simp only [List.mem_cons, List.not_mem_nil, or_false] at hx
    rcases hx with rfl | rfl | rfl | rfl | rfl | rfl | rfl | rfl | rfl
    · exact k _ st Gd.none.mono (fun es e => by cases e) hst
    · exact k _ st (Gd.lst (w := 0) (n := 0) (m := 0) (fun d m => by cases m) (by simp)).mono (fun es e => by cases e) hst
    · exact k _ st (Gd.lst (m := 9) ga gl).mono (fun es e => by cases e) hst
    · exact k _ st (Gd.tup (w := 4) (n := 1) (m := 1) (fun d m => by cases List.mem_singleton.mp m; exact (Gd.ints (ns := []) (m := 0) (fun i m => by cases m) (by simp))) (by simp)).mono (fun es e => by cases e; simp) hst
    · exact k _ st (Gd.ints (ns := [1]) (m := 1) (fun i m => by cases List.mem_singleton.mp m; decide) (by simp)).mono (fun es e => by cases e; simp) hst
    · exact k _ st (Gd.tup (w := 208) (n := 1) (m := 1) (fun d m => by cases List.mem_singleton.mp m; exact (Gd.ints (ns := [1, 2, 3, 4, 5, 6]) (m := 6) (fun i m => by simp at m; exact abs_lt (by omega) (by omega)) (by simp))) (by simp)).mono (fun es e => by cases e; simp) hst
    · exact k _ st (Gd.tup (w := 174) (n := 1) (m := 369) hz2 hz1).mono (fun es e => by cases e; omega) hst
    · exact k _ st (Gd.int (abs_lt (by omega) (by omega))).mono (fun es e => by cases e) hst
    · exact k _ st (Gd.str (m := 10) (strOk_of "costs") (by decide)).mono (fun es e => by cases e) hst
  rw [eq_t0 gc.sd.plain]
  walk_at "vrd"
  split
  · rw [ez]
    walk_at "vrd"
    walk_at "call"
    refine ⟨_, _, rfl, hst, by simp, by simp, fun x st hx hst => ?_⟩
    walk_at "vrd"
    exact fin x st hx hst
  · rename_i c
    have g1 : 1 ≤ (rowsD rows).length := by
      cases h : rowsD rows with
      | nil => exact absurd h c
      | cons a b => simp
    walk_at "call"
    refine ⟨_, _, rfl, hst, by decide, by decide, fun v st hv0 hv1 hst => ?_⟩
    walk_at "vrd"
    split
    · rw [ez]
      walk_at "vrd"
      walk_at "call"
      refine ⟨_, _, rfl, hst, by simp, by simp, fun x st hx hst => ?_⟩
      walk_at "vrd"
      exact fin x st hx hst
    · walk_at "call"
      refine ⟨_, _, rfl, hst, by omega, by omega, fun at_ st ha0 ha1 hst => ?_⟩
      walk_at "vrd"
      have hat : at_.toNat < (rowsD rows).length := by omega
      rw [show gIx (.tuple (rowsD rows)) (.int at_) = some (rowsD rows)[at_.toNat] from by rw [ixT_i ha0]; exact List.getElem?_eq_getElem hat]
      obtain ⟨ns, ens, hn1, hn5, hns⟩ := gd_row hr (List.getElem_mem hat)
      rw [ens]
      have gr := gd_rowT hn5 hns
      walk_at "vrd"
      walk_at "call"
      refine ⟨_, _, rfl, hst, by decide, by decide, fun way st hw0 hw1 hst => ?_⟩
      walk_at "vrd"
      generalize hT : sRet _ = T
      have tail : ∀ st bent x6, StOk st → Gd 4000 2 bent → T ⟨[some st, some (.tuple (rowsD rows)), none, some (.int at_), some (.tuple (ns.map .int)), some (.int way), x6, some bent], cs⟩ (vends [0] Q Er) := by
        intro st bent x6 hst hb
        subst hT
        have l1 := cut_len (ds := rowsD rows) (lo := none) (hi := some at_)
        have l2 := cut_len (ds := rowsD rows) (lo := some (at_ + 1)) (hi := none)
        walk_at "vrd"
        rw [cat_t (by simp; omega)]
        walk_at "vrd"
        rw [cat_t (by simp; omega)]
        walk_at "vrd"
        refine k _ st (Gd.tup (w := 4000) (n := 2) (m := 20) (fun d hd => ?_) (by simp; omega)).mono (fun es e => by cases e; simp; omega) hst
        rcases List.mem_append.mp hd with hd | hd
        · rcases List.mem_append.mp hd with hd | hd
          · exact (ga d (cut_mem hd)).mono
          · cases List.mem_singleton.mp hd
            exact hb
        · exact (ga d (cut_mem hd)).mono
      have gn : ∀ d ∈ ns.map Dt.int, Gd 32 0 d := fun d hd => by
        obtain ⟨i, hi, rfl⟩ := List.mem_map.mp hd
        exact gd_num (hns i hi)
      have ln : (ns.map Dt.int).length ≤ 5 := by rw [List.length_map]; exact hn5
      split
      · rw [List.length_map]
        walk_at "call"
        refine ⟨_, _, rfl, hst, by omega, by omega, fun pl st hp0 hp1 hst => ?_⟩
        walk_at "vrd"
        have hpl : pl.toNat < (ns.map Dt.int).length := by rw [List.length_map]; omega
        obtain ⟨i, hi, ei⟩ : ∃ i, i ∈ ns ∧ gIx (.tuple (ns.map .int)) (.int pl) = some (.int i) := by
          rw [ixT_i hp0]
          have hpl : pl.toNat < ns.length := by omega
          exact ⟨ns[pl.toNat], List.getElem_mem hpl, by rw [List.getElem?_map, List.getElem?_eq_getElem hpl]; rfl⟩
        rw [ei]
        have l1 := cut_len (ds := ns.map Dt.int) (lo := none) (hi := some pl)
        have l2 := cut_len (ds := ns.map Dt.int) (lo := some (pl + 1)) (hi := none)
        walk_at "vrd"
        walk_at "call"
        refine ⟨_, _, rfl, hst, (hns i hi).1, (hns i hi).2, fun odd st hod hst => ?_⟩
        walk_at "vrd"
        rw [cat_t (by simp at l1 ⊢; omega)]
        walk_at "vrd"
        rw [cat_t (by simp at l1 l2 ⊢; omega)]
        walk_at "vrd"
        refine tail st _ _ hst (Gd.tup (w := 330) (n := 1) (m := 11) (fun d hd => ?_) (by simp at l1 l2 ⊢; omega)).mono
        rcases List.mem_append.mp hd with hd | hd
        · rcases List.mem_append.mp hd with hd | hd
          · exact (gn d (cut_mem hd)).mono
          · cases List.mem_singleton.mp hd
            exact hod
        · exact (gn d (cut_mem hd)).mono
      · have l1 := cut_len (ds := ns.map Dt.int) (lo := some 1) (hi := none)
        rw [cat_t (by simp; omega)]
        walk_at "vrd"
        obtain ⟨y, hy, ey⟩ := ix_list (xs := [.tuple (cutP (ns.map .int) (some 1) none), .tuple (ns.map .int ++ [.int 1]), .list (ns.map .int), .none]) (i := way - 4) (by omega) (by simp; omega)
        rw [ey]
        walk_at "vrd"
        refine tail st _ _ hst ?_
        simp only [List.mem_cons, List.not_mem_nil, or_false] at hy
        rcases hy with rfl | rfl | rfl | rfl
        · exact (Gd.tup (w := 32) (n := 0) (m := 5) (fun d hd => gn d (cut_mem hd)) (by omega)).mono
        · refine (Gd.tup (w := 32) (n := 0) (m := 6) (fun d hd => ?_) (by simp; omega)).mono
          rcases List.mem_append.mp hd with hd | hd
          · exact gn d hd
          · cases List.mem_singleton.mp hd
            exact Gd.int (by decide)
        · exact (Gd.lst (w := 32) (n := 0) (m := 5) gn ln).mono
        · exact Gd.none.mono
theorem sc_law_ends : FnScope ["_law_state", "_law_many", "_law_found", "_law_k", "_law_way"] ["_law_state", "_law_many"] (defScope slaw_ends) := ⟨rfl, rfl, rfl, by decide +kernel, rfl, by decide +kernel, by decide +kernel⟩
theorem v_law_ends (T : Tw fa fn ts xb w K mg) : GFn P w K mg base 4 (He.fAd K dlaw_ends.at_) ["_law_state", "_law_many"] (spV K TL 2 [0] S_lends) := by
  obtain ⟨fd, F⟩ := T.says.def_ 20 (d := dlaw_ends) rfl
  refine okV (fun i => ([0] : List Nat).contains i) [0] _ F sc_law_ends (fun _ _ _ _ _ _ us hl => match us, hl with | [_, _], _ => rfl) rfl rfl (by decide) ⟨_, fun cdv hcdv A outer s H E hr => have hu := hu_of hr.rm; have hu65 := hu65_of hr.rm; (vss_cons (vs_set (i := 2) (vx_b1 cTupV (vb_of (vx_of (vn_lc (vs := [3]) (g := gName 3) (vi_rg1 (va_cons (vx_var (pv 1)) va_nil) (fun h => pi_range1 rfl (T.b 77) h)) (dgw_name (by decide) rfl rfl) rfl (fun {wi} hi => pe_lc (own := [("_law_k", 3)]) (g := gName 3) rfl sc_law_ends.nd hi (blkOk_by (N := ["_law_state", "_law_many", "_law_found", "_law_k", "_law_way"]) (sc := defScope slaw_ends) (by decide +kernel)) (fun _ _ _ _ _ => pg_name (i := 3) sc_law_ends.nd rfl (Or.inl rfl)) (fun _ _ _ _ _ => (vts_one (vt_cmp oEqI (vx_call (v_law_take T) (hr.mono (by decide)) (T.g 10) pn (vr_cons (vl_slot (pv 0)) (vr_cons (vl_val (vx_int pe_int)) vr_nil))) (vb_of (vx_int pe_int)) (nomark _)))) (fun _ _ _ _ _ => VX.can (vx_var (pv 3))))))) (fun h1 h2 => pe_callTy h1 (by rfl) (T.b 83) (by decide +kernel) h2)) (fun h => ps_set (i := 2) sc_law_ends.nd rfl (Or.inl rfl) h))
      (vss_cons (vs_set (i := 4) (vx_call (v_law_take T) (hr.mono (by decide)) (T.g 10) (fun σ => passAt (takes_of rfl rfl rfl rfl) σ) (vr_cons (vl_slot (pv 0)) (vr_cons (vl_val (vx_int pe_int)) vr_nil))) (fun h => ps_set (i := 4) sc_law_ends.nd rfl (Or.inl rfl) h))
      (vss_cons (vs_if (vt_cmp oEqI (vx_var (pv 4)) (vb_of (vx_int pe_int)) (nomark _)) (vss_one (vs_ret (vx_call (v_law_pick T) (hr.mono (by decide)) (T.g 11) (fun σ => passAt (takes_of rfl rfl rfl rfl) σ) (vr_cons (vl_slot (pv 0)) (vr_cons (vl_val (vx_of (vn_lst (va_cons (vx_non pe_non) (va_cons (vx_of (vn_b1 cListV (vb_of (vx_var (pv 2))) (fun h1 h2 => pe_callTy h1 (by rfl) (T.b 74) (by decide +kernel) h2))) (va_cons (vx_tup (va_cons (vx_var (pv 1)) va_nil)) (va_cons (vx_tup (va_cons (vx_un uNeg (vx_int pe_int)) va_nil)) (va_cons (vx_tup (va_cons (vx_bl pe_bl) va_nil)) (va_cons (vx_op oCatT (vx_var (pv 2)) (vb_of (vx_var (pv 2)))) (va_cons (vx_tup (va_cons (vx_non pe_non) va_nil)) (va_cons (vx_int pe_int) (va_cons (vx_tup (va_cons (vx_str pe_str) va_nil)) va_nil)))))))))))) vr_nil))))) vss_nil)
      (vss_one (vs_ret (vx_if (vt_cmp oEqI (vx_var (pv 4)) (vb_of (vx_int pe_int)) (nomark _)) (vx_revT (vx_var (pv 2))) (vx_var (pv 2)))))))), fun ds cs Q Er hl h => ?_⟩
  clear hl
  obtain ⟨st, m, rfl, hst, h0, h1, k⟩ := h
  walk_at "vrd"
  refine ⟨by omega, by omega, ?_⟩
  refine r_lcI (fun i acc s => ∃ st ns, s = ⟨[some st, some (.int m), none, none, none], cs⟩ ∧ StOk st ∧ acc = ns.map .int ∧ ns.length ≤ i ∧ ∀ k ∈ ns, 0 ≤ k ∧ k < 400) ⟨st, [], rfl, hst, rfl, Nat.le_refl _, fun k h => by cases h⟩ ?_ ?_
  · rintro i acc s d hd ⟨st, ns, rfl, hst, rfl, hnl, hns⟩
    have hi : i < m.toNat := by
      have := (List.getElem?_eq_some_iff.mp hd).1
      rw [rgD_len] at this
      exact this
    rw [rg0, List.getElem?_map, List.getElem?_range hi] at hd
    cases hd
    walk_at "vrd"
    walk_at "call"
    refine ⟨_, _, rfl, hst, by decide, by decide, fun v st hv0 hv1 hst => ?_⟩
    walk_at "vrd"
    split
    · refine ⟨by rw [List.length_map]; omega, st, ns ++ [(i : Int)], rfl, hst, by simp, by simp; omega, fun z hz => ?_⟩
      rcases List.mem_append.mp hz with hz | hz
      · exact hns z hz
      · cases List.mem_singleton.mp hz
        omega
    · exact ⟨st, ns, rfl, hst, rfl, by omega, hns⟩
  · rintro acc s ⟨st, ns, rfl, hst, rfl, hnl, hns⟩
    rw [rgD_len] at hnl
    have hnl : ns.length ≤ 400 := by omega
    have gi : ∀ i ∈ ns, i.natAbs < 10 ^ 31 := fun i h => by have := hns i h; exact abs_lt (by omega) (by omega)
    have gt : Gd 13604 1 (.tuple (ns.map .int)) := Gd.ints gi hnl
    walk_at "vrd"
    walk_at "call"
    refine ⟨_, _, rfl, hst, by decide, by decide, fun v st hv0 hv1 hst => ?_⟩
    walk_at "vrd"
    split
    · rw [cat_t (by rw [List.length_map]; omega)]
      walk_at "vrd"
      walk_at "call"
      refine ⟨_, _, rfl, hst, by simp, by simp, fun x st hx hst => ?_⟩
      walk_at "vrd"
      simp only [List.mem_cons, List.not_mem_nil, or_false] at hx
      rcases hx with rfl | rfl | rfl | rfl | rfl | rfl | rfl | rfl | rfl
      · exact k _ st Gd.none.mono (fun es e => by cases e) hst
      · exact k _ st (Gd.lst (w := 32) (n := 0) (m := 400) (fun d hd => by obtain ⟨i, hi, rfl⟩ := List.mem_map.mp hd; exact .int (gi i hi)) (by rw [List.length_map]; exact hnl)).mono (fun es e => by cases e) hst
      · exact k _ st (Gd.ints (ns := [m]) (m := 1) (fun i h => by cases List.mem_singleton.mp h; exact abs_lt (by omega) (by omega)) (by simp)).mono (fun es e => by cases e; simp) hst
      · exact k _ st (Gd.ints (ns := [-1]) (m := 1) (fun i h => by cases List.mem_singleton.mp h; decide) (by simp)).mono (fun es e => by cases e; simp) hst
      · exact k _ st (Gd.tup (w := 32) (n := 0) (m := 1) (fun d h => by cases List.mem_singleton.mp h; exact .bool _) (by simp)).mono (fun es e => by cases e; simp) hst
      · rw [← List.map_append]
        exact k _ st (Gd.ints (m := 800) (fun i h => by rcases List.mem_append.mp h with h | h <;> exact gi i h) (by rw [List.length_append]; omega)).mono (fun es e => by cases e; simp; omega) hst
      · exact k _ st (Gd.tup (w := 32) (n := 0) (m := 1) (fun d h => by cases List.mem_singleton.mp h; exact .none) (by simp)).mono (fun es e => by cases e; simp) hst
      · exact k _ st (Gd.int (abs_lt (by omega) (by omega))).mono (fun es e => by cases e) hst
      · exact k _ st (Gd.tup (w := 22) (n := 0) (m := 1) (fun d h => by cases List.mem_singleton.mp h; exact Gd.str (m := 2) (strOk_of "0") (by decide)) (by simp)).mono (fun es e => by cases e; simp) hst
    · split
      · rw [← List.map_reverse]
        exact k _ st (Gd.ints (m := 400) (fun i h => gi i (List.mem_reverse.mp h)) (by rw [List.length_reverse]; exact hnl)).mono (fun es e => by cases e; simp; omega) hst
      · exact k _ st gt.mono (fun es e => by cases e; simp; omega) hst
end
end VC
/-! V87c: what is refused, one turn of the law, the law. -/
namespace VU
open PySem PySem.Spec PyProof.Rows L2 Ts Dv VD VC K87
local macro_rules | `(tactic| walk_at "vrh") => `(tactic| simp (config := {decide := true}) only [Bool.or_eq_true, Option.getD_some, Option.getD_none, decide_eq_true_eq, Ts.isaD, Ts.kindD, Ts.isaK, Bool.not_true, Bool.not_false, Bool.or_self, Bool.and_self, List.map_cons, List.map_nil, List.length_cons, List.length_nil, List.replicate, List.cons_append, List.nil_append, Nat.reduceSub, Nat.reduceAdd, List.set_cons_zero, List.set_cons_succ, ↓reduceIte, Bool.false_eq_true, reduceCtorEq, true_and, and_true, List.append_nil, Option.isSome_some, Nat.reduceLeDiff, Bool.and_true, Bool.true_and, Bool.or_true, Bool.true_or, decide_true, Nat.zero_add, Int.reduceNeg, Int.reducePow, Int.reduceLE, Int.reduceLT, Int.reduceAdd, Int.reduceSub, Int.reduceMul, Int.toNat_natCast, Option.map_some, Option.bind_some, beq_self_eq_true, Dv.bO_some, Dv.bO_none, Dv.ite_dec, Dv.gS_0, Dv.gS_n, Dv.gS_s, Dv.v_slot, Dv.v_val, Dv.v_cell, Dv.set_mk, Dv.cell_mk, Dv.pa_slot, Dv.pa_cell, Dv.refOf, Dv.boOf, Dv.intOf, Dv.tupOf, Dv.lstOf, Dv.dicOf_d, Dv.insOf_same, Dv.e_fl, Dv.e_kK, Dv.plc, Dv.e_var, Dv.e_c, Dv.e_cell, Dv.e_kCell, Dv.e_L, Dv.e_kL, Dv.e_Ls, Dv.e_Lc, Dv.e_kLc1, Dv.e_kLc2, Dv.e_Rd, Dv.e_kRd, Dv.e_Op, Dv.e_kOp1, Dv.e_kOp2, Dv.e_OpL, Dv.e_kOpL1, Dv.e_kOpL2, Dv.e_kOpL3, Dv.e_Tst, Dv.e_kTst, Dv.e_kTst2, Dv.e_Un, Dv.e_kUn, Dv.e_Ch, Dv.e_kCh1, Dv.e_kCh2, Dv.e_kCh3, Dv.e_kCh4, Dv.e_kCh5, Dv.e_And, Dv.e_kAnd, Dv.e_Or, Dv.e_kOr, Dv.e_Not, Dv.e_kNot, Dv.e_AndV, Dv.e_kAndV, Dv.e_kAndV2, Dv.e_OrV, Dv.e_kOrV, Dv.e_kOrV2, Dv.e_NotV, Dv.e_kNotV, Dv.e_kNotV2, Dv.e_IfV, Dv.e_kIfV, Dv.e_nil, Dv.e_Cons, Dv.e_kCons1, Dv.e_kCons2, Dv.e_Tup, Dv.e_kTup, Dv.e_Lst, Dv.e_kLst, Dv.e_Ca, Dv.e_kCa, Dv.e_NewL, Dv.e_kNewL, Dv.e_kNewL2, Dv.e_Seq, Dv.e_kSeqn, Dv.e_kSeqrt, Dv.e_kSeqbk, Dv.e_kSeqct, Dv.e_kSeqer, Dv.e_Next, Dv.e_Brk, Dv.e_Cnt, Dv.e_Drop, Dv.e_kDrop, Dv.e_Ret, Dv.e_RetN, Dv.e_RetO, Dv.e_kRetO, Dv.e_RetC, Dv.e_kRetC, Dv.e_IfS, Dv.e_kIfS, Dv.e_gNm, Dv.e_gNms0, Dv.e_gNms1, Dv.e_gTpN, Dv.e_gTpL, Dv.e_kTpN, Dv.e_Asg, Dv.e_kAsg, Dv.e_Set, Dv.e_kSet, Dv.e_Take, Dv.e_kTake, Dv.e_kTake2, Dv.e_kTake3, Dv.e_For, Dv.e_kWh, Dv.e_Call, Dv.e_kCall, Dv.e_NilR, Dv.e_ConsR, Dv.e_kConsR1, Dv.e_kConsR2, Dv.e_kBack, Dv.e_putP0, Dv.e_putP1, Dv.e_putP2, Dv.e_delP0, Dv.e_delP1, Dv.e_delP2, Dv.e_Yes, Dv.e_ItF, Dv.e_kItF, Dv.e_ItT, Dv.e_kItT, Dv.e_ItL, Dv.e_kItL, Dv.wipe_0, Dv.wipe_1, Dv.e_kME, Dv.e_kMB, Dv.e_kMT, Dv.e_LcS, Dv.e_Rg1, Dv.e_kRg1, Dv.e_Rg2, Dv.e_kRg2, Dv.e_EnL, Dv.e_kEnL, Dv.e_EnT, Dv.e_kEnT, Dv.e_kEn2, Dv.e_Zp, Dv.e_kZp, Dv.e_kZp2, Dv.sq_t, Dv.sq_l, Dv.e_No, Dv.e_Pt, Dv.e_kPt, Dv.e_kPt2, Dv.e_SlT, Dv.e_kSlT1, Dv.e_kSlT2, Dv.e_kSlT3, Dv.e_kSlT4, Dv.e_SlL, Dv.e_kSlL1, Dv.e_kSlL2, Dv.e_kSlL3, Dv.e_kSlL4, Dv.e_Prs0, Dv.e_Prs1, Dv.e_kPr1, Dv.e_kPr2, Dv.e_kPr3, Dv.e_Di, Dv.e_kDi, Dv.e_kDi2, Dv.e_ks0, Dv.e_ks1, Dv.e_ks2, Dv.e_NewD, Dv.e_Mu, Dv.e_kMu1, Dv.e_kMu2, Dv.e_kMu3, Dv.e_kMu4, Dv.e_kMu5, Dv.e_PD, Dv.e_kPD1, Dv.e_kPD2, Dv.e_kPD3, Dv.e_kPD4, Dv.e_kPD5, Dv.e_iS, Option.bind_some, Option.map_some, Dv.e_AI, Dv.e_kAI1, Dv.e_kAI2, Dv.e_kAI3, Dv.e_AL, Dv.e_kAL1, Dv.e_kAL2, Dv.e_kAL3, Dv.e_kAL4, Dv.e_Raise, Dv.e_Fld, Dv.e_kFld, Dv.e_kFld2, Dv.e_SF, Dv.e_kSF1, Dv.e_kSF2, Dv.e_kSF3, Dv.e_Me, Dv.e_kMe, Dv.e_kMe1, Dv.e_kMe2, Dv.e_Mk, Dv.e_kMk, Dv.e_kMk2, Dv.e_kMk3, Dv.e_vrt, Dv.e_vnx, Dv.e_ver, Dv.e_kOut, Dv.e_outs0, Dv.e_outs2, Dv.plain_int, Dv.plain_bool, Dv.plain_none, Dv.plain_str, Dv.flat_none, Dv.flat_bool, Dv.flat_int, Dv.flat_str, Dv.plain_l, Dv.plain_t, Dv.eq_ss, Dv.eq_ii, Dv.eq_si, Dv.eq_sn, Dv.eq_sb, Dv.eq_st, Dv.eq_sl, Dv.mem_nil, Dv.mem_cons, Dv.gIn_l, Dv.gIn_t, Dv.gNi_l, Dv.gNi_t, List.all_cons, List.all_nil, Bool.or_false, Bool.false_or, Dv.gDiv_int, Dv.gMod_int, Dv.gMul_int, Dv.ite_or, Dv.gI_int, Dv.divB, Dv.modB, Dv.mulB, Dv.gAdd_i, Dv.gSub_i, Dv.gLt_i, Dv.gLe_i, Dv.gGt_i, Dv.gGe_i, Dv.gNeg_i, Dv.gEqI_i, Dv.gNeI_i, Dv.gEqS_s, Dv.gNeS_s, Dv.gMax2_i, Dv.gMin2_i, Dv.gInt_b, Dv.gInt_i, Dv.len_l, Dv.len_t, Dv.len_f, Dv.not_dec, Dv.st0, Dv.isTy, Dv.strOk_of, Dv.flat_of, Dv.e_ListRg, Dv.e_kListRg, Dv.e_SortedSet, Dv.e_kSortedSet, Dv.gIsN_e, Dv.gNotN_e, Dv.isN_non, Dv.isN_bl, Dv.isN_int, Dv.isN_str, Dv.isN_l, Dv.isN_t, Dv.isN_d, Dv.isN_e, Dv.isN_r, Dv.isN_i, Dv.cat_l, Dv.cat_t, Dv.cnt_l, Dv.cntD_nil, Dv.cntD_cons, Dv.idx_l, Dv.ixD_nil, Dv.ixD_cons, Dv.eq_bb, Dv.ix_n, Dv.ixT_n, Dv.ix_i, Dv.ixT_i, Dv.ix_m1, Dv.ixT_m1, Dv.tup_l, Dv.tup_t, Dv.e_FA, Dv.e_kFA1, Dv.e_kFA1', Dv.e_kFA2, Dv.e_kFA3, Dv.e_kFA4, Dv.e_kFA5, Dv.cput_same, Dv.cput_cput, Dv.items_t, Dv.items_l, Dv.e_SI, Dv.e_kSI0, Dv.e_kSI1, Dv.e_kSI2, Dv.e_kSI3, Dv.e_kSI4, Dv.e_kSI5, Dv.fget_nil, Dv.fget_cons, Dv.fput_nil, Dv.fput_cons, Dv.all_b, Dv.all_m, Dv.sum_i, List.getElem?_cons_zero, List.getElem?_cons_succ, Int.ofNat_eq_natCast, Int.cast_ofNat_Int, Int.reduceToNat, Dv.e_Bm, Dv.e_kBm1, Dv.e_kBm1', Dv.e_kBm2, Dv.e_kBm3, Dv.isRd_l, Dv.isRd_s, Dv.e_Try, Dv.e_trnx, Dv.e_trrt, Dv.e_trbk, Dv.e_trct, Dv.e_trer, Dv.e_kTr, Dv.lkB_nil, Dv.lkB_cons, Dv.isEr_e, Dv.e_Lam, Dv.e_kLam, Dv.e_wipe0, Dv.e_wipe1, Dv.e_Act, Dv.e_kAct, Dv.e_kActE, Dv.e_lamS, Dv.e_kLs, Dv.e_kLsE, Dv.gKin_s, Dv.gKix_s, Dv.litD_t, Dv.litD_i, Dv.litD_n, Dv.isa_i, Dv.isa_s, Dv.isa_b, Dv.isa_n, Dv.isa_t, Dv.isa_l, Dv.isa_d, Dv.isa_dt, Dv.e_GO, Dv.e_GO1, Dv.e_GO2, Dv.e_GO3, Dv.e_GO4, Dv.e_GO5, Dv.kOf_str, Dv.kOf_int, Dv.lk_cons, Dv.lk_nil, Dv.e_Par, Dv.e_kPar, Dv.merge_nd, Dv.gDGet_d, Dv.gDIn_d, *])
local macro_rules | `(tactic| walk_at "vrd") => `(tactic| simp (config := {decide := true}) only [Bool.or_eq_true, Option.getD_some, Option.getD_none, decide_eq_true_eq, Ts.isaD, Ts.kindD, Ts.isaK, Bool.not_true, Bool.not_false, Bool.or_self, Bool.and_self, List.map_cons, List.map_nil, List.length_cons, List.length_nil, List.replicate, List.cons_append, List.nil_append, Nat.reduceSub, Nat.reduceAdd, List.set_cons_zero, List.set_cons_succ, ↓reduceIte, Bool.false_eq_true, reduceCtorEq, true_and, and_true, List.append_nil, Option.isSome_some, Nat.reduceLeDiff, Bool.and_true, Bool.true_and, Bool.or_true, Bool.true_or, decide_true, Nat.zero_add, Int.reduceNeg, Int.reducePow, Int.reduceLE, Int.reduceLT, Int.reduceAdd, Int.reduceSub, Int.reduceMul, Int.toNat_natCast, Option.map_some, Option.bind_some, beq_self_eq_true, Dv.bO_some, Dv.bO_none, Dv.ite_dec, Dv.gS_0, Dv.gS_n, Dv.gS_s, Dv.v_slot, Dv.v_val, Dv.v_cell, Dv.set_mk, Dv.cell_mk, Dv.pa_slot, Dv.pa_cell, Dv.refOf, Dv.boOf, Dv.intOf, Dv.tupOf, Dv.lstOf, Dv.dicOf_d, Dv.insOf_same, Dv.e_fl, Dv.e_kK, Dv.plc, Dv.e_var, Dv.e_c, Dv.e_cell, Dv.e_kCell, Dv.e_L, Dv.e_kL, Dv.e_Ls, Dv.e_Lc, Dv.e_kLc1, Dv.e_kLc2, Dv.e_Rd, Dv.e_kRd, Dv.e_Op, Dv.e_kOp1, Dv.e_kOp2, Dv.e_OpL, Dv.e_kOpL1, Dv.e_kOpL2, Dv.e_kOpL3, Dv.e_Tst, Dv.e_kTst, Dv.e_kTst2, Dv.e_Un, Dv.e_kUn, Dv.e_Ch, Dv.e_kCh1, Dv.e_kCh2, Dv.e_kCh3, Dv.e_kCh4, Dv.e_kCh5, Dv.e_And, Dv.e_kAnd, Dv.e_Or, Dv.e_kOr, Dv.e_Not, Dv.e_kNot, Dv.e_AndV, Dv.e_kAndV, Dv.e_kAndV2, Dv.e_OrV, Dv.e_kOrV, Dv.e_kOrV2, Dv.e_NotV, Dv.e_kNotV, Dv.e_kNotV2, Dv.e_IfV, Dv.e_kIfV, Dv.e_nil, Dv.e_Cons, Dv.e_kCons1, Dv.e_kCons2, Dv.e_Tup, Dv.e_kTup, Dv.e_Lst, Dv.e_kLst, Dv.e_Ca, Dv.e_kCa, Dv.e_NewL, Dv.e_kNewL, Dv.e_kNewL2, Dv.e_Seq, Dv.e_kSeqn, Dv.e_kSeqrt, Dv.e_kSeqbk, Dv.e_kSeqct, Dv.e_kSeqer, Dv.e_Next, Dv.e_Brk, Dv.e_Cnt, Dv.e_Drop, Dv.e_kDrop, Dv.e_Ret, Dv.e_RetN, Dv.e_RetO, Dv.e_kRetO, Dv.e_RetC, Dv.e_kRetC, Dv.e_IfS, Dv.e_kIfS, Dv.e_gNm, Dv.e_gNms0, Dv.e_gNms1, Dv.e_gTpN, Dv.e_gTpL, Dv.e_kTpN, Dv.e_Asg, Dv.e_kAsg, Dv.e_Set, Dv.e_kSet, Dv.e_Take, Dv.e_kTake, Dv.e_kTake2, Dv.e_kTake3, Dv.e_For, Dv.e_kWh, Dv.e_Call, Dv.e_kCall, Dv.e_NilR, Dv.e_ConsR, Dv.e_kConsR1, Dv.e_kConsR2, Dv.e_kBack, Dv.e_putP0, Dv.e_putP1, Dv.e_putP2, Dv.e_delP0, Dv.e_delP1, Dv.e_delP2, Dv.e_Yes, Dv.e_ItF, Dv.e_kItF, Dv.e_ItT, Dv.e_kItT, Dv.e_ItL, Dv.e_kItL, Dv.wipe_0, Dv.wipe_1, Dv.e_kME, Dv.e_kMB, Dv.e_kMT, Dv.e_LcS, Dv.e_Rg1, Dv.e_kRg1, Dv.e_Rg2, Dv.e_kRg2, Dv.e_EnL, Dv.e_kEnL, Dv.e_EnT, Dv.e_kEnT, Dv.e_kEn2, Dv.e_Zp, Dv.e_kZp, Dv.e_kZp2, Dv.sq_t, Dv.sq_l, Dv.e_No, Dv.e_Pt, Dv.e_kPt, Dv.e_kPt2, Dv.e_SlT, Dv.e_kSlT1, Dv.e_kSlT2, Dv.e_kSlT3, Dv.e_kSlT4, Dv.e_SlL, Dv.e_kSlL1, Dv.e_kSlL2, Dv.e_kSlL3, Dv.e_kSlL4, Dv.e_Prs0, Dv.e_Prs1, Dv.e_kPr1, Dv.e_kPr2, Dv.e_kPr3, Dv.e_Di, Dv.e_kDi, Dv.e_kDi2, Dv.e_ks0, Dv.e_ks1, Dv.e_ks2, Dv.e_NewD, Dv.e_Mu, Dv.e_kMu1, Dv.e_kMu2, Dv.e_kMu3, Dv.e_kMu4, Dv.e_kMu5, Dv.e_PD, Dv.e_kPD1, Dv.e_kPD2, Dv.e_kPD3, Dv.e_kPD4, Dv.e_kPD5, Dv.e_iS, Option.bind_some, Option.map_some, Dv.e_AI, Dv.e_kAI1, Dv.e_kAI2, Dv.e_kAI3, Dv.e_AL, Dv.e_kAL1, Dv.e_kAL2, Dv.e_kAL3, Dv.e_kAL4, Dv.e_Raise, Dv.e_Fld, Dv.e_kFld, Dv.e_kFld2, Dv.e_SF, Dv.e_kSF1, Dv.e_kSF2, Dv.e_kSF3, Dv.e_Me, Dv.e_kMe, Dv.e_kMe1, Dv.e_kMe2, Dv.e_Mk, Dv.e_kMk, Dv.e_kMk2, Dv.e_kMk3, Dv.e_vrt, Dv.e_vnx, Dv.e_ver, Dv.e_kOut, Dv.e_outs0, Dv.e_outs2, Dv.plain_int, Dv.plain_bool, Dv.plain_none, Dv.plain_str, Dv.flat_none, Dv.flat_bool, Dv.flat_int, Dv.flat_str, Dv.plain_l, Dv.plain_t, Dv.eq_ss, Dv.eq_ii, Dv.eq_si, Dv.eq_sn, Dv.eq_sb, Dv.eq_st, Dv.eq_sl, Dv.mem_nil, Dv.mem_cons, Dv.gIn_l, Dv.gIn_t, Dv.gNi_l, Dv.gNi_t, List.all_cons, List.all_nil, Bool.or_false, Bool.false_or, Dv.gDiv_int, Dv.gMod_int, Dv.gMul_int, Dv.ite_or, Dv.gI_int, Dv.divB, Dv.modB, Dv.mulB, Dv.gAdd_i, Dv.gSub_i, Dv.gLt_i, Dv.gLe_i, Dv.gGt_i, Dv.gGe_i, Dv.gNeg_i, Dv.gEqI_i, Dv.gNeI_i, Dv.gEqS_s, Dv.gNeS_s, Dv.gMax2_i, Dv.gMin2_i, Dv.gInt_b, Dv.gInt_i, Dv.len_l, Dv.len_t, Dv.len_f, Dv.not_dec, Dv.st0, Dv.isTy, Dv.strOk_of, Dv.flat_of, Dv.e_ListRg, Dv.e_kListRg, Dv.e_SortedSet, Dv.e_kSortedSet, Dv.gIsN_e, Dv.gNotN_e, Dv.isN_non, Dv.isN_bl, Dv.isN_int, Dv.isN_str, Dv.isN_l, Dv.isN_t, Dv.isN_d, Dv.isN_e, Dv.isN_r, Dv.isN_i, Dv.cat_l, Dv.cat_t, Dv.cnt_l, Dv.cntD_nil, Dv.cntD_cons, Dv.idx_l, Dv.ixD_nil, Dv.ixD_cons, Dv.eq_bb, Dv.ix_n, Dv.ixT_n, Dv.ix_i, Dv.ixT_i, Dv.ix_m1, Dv.ixT_m1, Dv.tup_l, Dv.tup_t, Dv.e_FA, Dv.e_kFA1, Dv.e_kFA1', Dv.e_kFA2, Dv.e_kFA3, Dv.e_kFA4, Dv.e_kFA5, Dv.cput_same, Dv.cput_cput, Dv.items_t, Dv.items_l, Dv.e_SI, Dv.e_kSI0, Dv.e_kSI1, Dv.e_kSI2, Dv.e_kSI3, Dv.e_kSI4, Dv.e_kSI5, Dv.fget_nil, Dv.fget_cons, Dv.fput_nil, Dv.fput_cons, Dv.all_b, Dv.all_m, Dv.sum_i, List.getElem?_cons_zero, List.getElem?_cons_succ, Int.ofNat_eq_natCast, Int.cast_ofNat_Int, Int.reduceToNat, Dv.e_Bm, Dv.e_kBm1, Dv.e_kBm1', Dv.e_kBm2, Dv.e_kBm3, Dv.isRd_l, Dv.isRd_s, Dv.e_Try, Dv.e_trnx, Dv.e_trrt, Dv.e_trbk, Dv.e_trct, Dv.e_trer, Dv.e_kTr, Dv.lkB_nil, Dv.lkB_cons, Dv.isEr_e, Dv.e_Lam, Dv.e_kLam, Dv.e_wipe0, Dv.e_wipe1, Dv.e_Act, Dv.e_kAct, Dv.e_kActE, Dv.e_lamS, Dv.e_kLs, Dv.e_kLsE, Dv.gKin_s, Dv.gKix_s, Dv.litD_t, Dv.litD_i, Dv.litD_n, Dv.isa_i, Dv.isa_s, Dv.isa_b, Dv.isa_n, Dv.isa_t, Dv.isa_l, Dv.isa_d, Dv.isa_dt, Dv.e_GO, Dv.e_GO1, Dv.e_GO2, Dv.e_GO3, Dv.e_GO4, Dv.e_GO5, Dv.kOf_str, Dv.kOf_int, Dv.lk_cons, Dv.lk_nil, Dv.e_Par, Dv.e_kPar, Dv.merge_nd, Dv.gDGet_d, Dv.gDIn_d])
local macro_rules | `(tactic| walk_at "call") => `(tactic| refine Dv.r_call _ _ rfl rfl (by decide) rfl rfl ?_)

def clsW (n : Str) : Option Str := if n = "NoCosts" then some "costs" else if n = "NoChoice" then some "choice" else none
def S_ref : LSp := fun S cs Q => ∀ (A : Dt → List Dt → Cells → Prop) (B : Str → List Dt → Cells → Prop), (∀ d o cs', Q (.str "none") cs' → A d o cs') → (∀ n o cs' wd, clsW n = some wd → Q (.str wd) cs' → B n o cs') → S [] cs A B
def S_lright : Fs := fun ds _ P _ => ∃ st, ds = [st] ∧ StOk st ∧ ∀ st' cs', StOk st' → P (.bool true) [st'] cs'
def S_law : Fs := fun ds cs P _ => ∃ c : List Int, ds = [.lsF c] ∧ c.length ≤ 63 ∧ ∀ cs', P (.bool true) [] cs'
theorem rows_costsB {rows : List (List Int)} {n : Nat} (hr : Rows rows n) : costsB (.tuple (rowsD rows)) = true := by
  rw [costsB_t, decide_eq_true (by rw [rowsD_len]; exact hr.many), Bool.true_and, List.all_eq_true]
  have hm : rows ≠ [] → m0 (rowsD rows) = n := by
    intro h
    cases rows with
    | nil => exact absurd rfl h
    | cons r rs =>
      show (r.map Dt.int).length = n
      rw [List.length_map]
      exact (hr.row r List.mem_cons_self).1
  intro d hd
  obtain ⟨r, hm2, rfl⟩ := List.mem_map.mp hd
  have hm := hm (List.ne_nil_of_mem hm2)
  obtain ⟨h1, h2⟩ := hr.row r hm2
  have := hr.n1
  have := hr.n5
  refine goodRow_iff.mpr ⟨by rw [List.length_map]; omega, by rw [List.length_map]; omega, List.all_eq_true.mpr fun d hd => ?_⟩
  obtain ⟨i, hi, rfl⟩ := List.mem_map.mp hd
  rw [bt_range]
  exact decide_eq_true (h2 i hi)
theorem ends_int {y : Dt} {m : Int} (h : endsB y m = true) : ∃ ns : List Int, y = .tuple (ns.map .int) ∧ (∀ i ∈ ns, 0 ≤ i ∧ i ≤ m - 1) ∧ ns = usort ns := by
  cases y <;> first | (cases h; done) | skip
  rename_i ds
  have h : (_ && _) = true := h
  rw [Bool.and_eq_true] at h
  obtain ⟨ns, rfl, h2⟩ := bts_int h.1
  have h3 := h.2
  rw [intsOf_map] at h3
  exact ⟨ns, rfl, h2, of_decide_eq_true h3⟩
theorem int_ends {ns : List Int} {m : Int} (h1 : ∀ i ∈ ns, 0 ≤ i ∧ i ≤ m - 1) (h2 : ns = usort ns) : endsB (.tuple (ns.map .int)) m = true := by
  show (_ && _) = true
  rw [Bool.and_eq_true]
  refine ⟨List.all_eq_true.mpr fun d hd => ?_, ?_⟩
  · obtain ⟨i, hi, rfl⟩ := List.mem_map.mp hd
    rw [bt_range]
    exact decide_eq_true (h1 i hi)
  · rw [intsOf_map]
    exact decide_eq_true h2
theorem rowsD_inj {a b : List (List Int)} (h : rowsD a = rowsD b) : a = b := by
  induction a generalizing b with
  | nil =>
    cases b with
    | nil => rfl
    | cons x y => cases h
  | cons r rs ih =>
    cases b with
    | nil => cases h
    | cons x y =>
      unfold rowsD at h ih
      rw [List.map_cons, List.map_cons] at h
      injection h with h1 h2
      injection h1 with h1
      rw [ints_inj h1, ih h2]
theorem sum_b {f : Int → Int} : ∀ ns : List Int, (∀ i ∈ ns, 0 ≤ f i ∧ f i ≤ 1000000) → 0 ≤ (ns.map f).sum ∧ (ns.map f).sum ≤ 1000000 * ns.length
  | [], _ => ⟨Int.le_refl _, Int.le_refl _⟩
  | i :: r, hf => by
    have h1 := hf i List.mem_cons_self
    have h2 := sum_b r fun i m => hf i (List.mem_cons_of_mem _ m)
    rw [List.map_cons, List.sum_cons, List.length_cons]
    omega
section
variable {P : Program} {w : World} {K : PySem.W.Frag} {mg : Str → Option Value} {base : Heap} {TL : Tbs}
theorem exmT_ShelfError (T : Tw fa fn ts xb w K mg) : ExmT K (.ref (He.ga K "ShelfError")) [("NoCosts", true), ("NoChoice", true)] := exmT_cons (T.exm 1) (exmT_cons (T.exm 16) (exmT_nil))
theorem kitT_NoSort (T : Tw fa fn ts xb w K mg) : KitT K (.ref (He.ga K "NoSort")) [("NoCosts", false), ("NoChoice", false)] := kitT_cons (T.excC 0) (T.kio 2) (kitT_cons (T.excC 15) (T.kio 17) (kitT_nil))
theorem kitT_NoThings (T : Tw fa fn ts xb w K mg) : KitT K (.ref (He.ga K "NoThings")) [("NoCosts", false), ("NoChoice", false)] := kitT_cons (T.excC 0) (T.kio 3) (kitT_cons (T.excC 15) (T.kio 18) (kitT_nil))
theorem kitT_NoDeed (T : Tw fa fn ts xb w K mg) : KitT K (.ref (He.ga K "NoDeed")) [("NoCosts", false), ("NoChoice", false)] := kitT_cons (T.excC 0) (T.kio 4) (kitT_cons (T.excC 15) (T.kio 19) (kitT_nil))
theorem kitT_NoKind (T : Tw fa fn ts xb w K mg) : KitT K (.ref (He.ga K "NoKind")) [("NoCosts", false), ("NoChoice", false)] := kitT_cons (T.excC 0) (T.kio 5) (kitT_cons (T.excC 15) (T.kio 20) (kitT_nil))
theorem kitT_TooMany (T : Tw fa fn ts xb w K mg) : KitT K (.ref (He.ga K "TooMany")) [("NoCosts", false), ("NoChoice", false)] := kitT_cons (T.excC 0) (T.kio 6) (kitT_cons (T.excC 15) (T.kio 21) (kitT_nil))
theorem kitT_NoProgram (T : Tw fa fn ts xb w K mg) : KitT K (.ref (He.ga K "NoProgram")) [("NoCosts", false), ("NoChoice", false)] := kitT_cons (T.excC 0) (T.kio 7) (kitT_cons (T.excC 15) (T.kio 22) (kitT_nil))
theorem kitT_NoText (T : Tw fa fn ts xb w K mg) : KitT K (.ref (He.ga K "NoText")) [("NoCosts", false), ("NoChoice", false)] := kitT_cons (T.excC 0) (T.kio 8) (kitT_cons (T.excC 15) (T.kio 23) (kitT_nil))
theorem kitT_NoRun (T : Tw fa fn ts xb w K mg) : KitT K (.ref (He.ga K "NoRun")) [("NoCosts", false), ("NoChoice", false)] := kitT_cons (T.excC 0) (T.kio 9) (kitT_cons (T.excC 15) (T.kio 24) (kitT_nil))
theorem kitT_NoCosts (T : Tw fa fn ts xb w K mg) : KitT K (.ref (He.ga K "NoCosts")) [("NoCosts", true), ("NoChoice", false)] := kitT_cons (T.excC 0) (T.kio 10) (kitT_cons (T.excC 15) (T.kio 25) (kitT_nil))
theorem kitT_NoChoice (T : Tw fa fn ts xb w K mg) : KitT K (.ref (He.ga K "NoChoice")) [("NoCosts", false), ("NoChoice", true)] := kitT_cons (T.excC 0) (T.kio 11) (kitT_cons (T.excC 15) (T.kio 26) (kitT_nil))
theorem kitT_NoShelf (T : Tw fa fn ts xb w K mg) : KitT K (.ref (He.ga K "NoShelf")) [("NoCosts", false), ("NoChoice", false)] := kitT_cons (T.excC 0) (T.kio 12) (kitT_cons (T.excC 15) (T.kio 27) (kitT_nil))
theorem kitT_NoRow (T : Tw fa fn ts xb w K mg) : KitT K (.ref (He.ga K "NoRow")) [("NoCosts", false), ("NoChoice", false)] := kitT_cons (T.excC 0) (T.kio 13) (kitT_cons (T.excC 15) (T.kio 28) (kitT_nil))
theorem kitT_ValueError (T : Tw fa fn ts xb w K mg) : KitT K (.type "ValueError") [("NoCosts", true), ("NoChoice", true)] := kitT_cons (T.excC 0) (T.kit 14) (kitT_cons (T.excC 15) (T.kit 29) (kitT_nil))
theorem sc_law_refusal : FnScope ["_law_work", "_law_error", "e", "_law_told", "_law_words"] ["_law_work"] (defScope slaw_refusal) := ⟨rfl, rfl, rfl, by decide +kernel, rfl, by decide +kernel, by decide +kernel⟩
theorem l_law_refusal {k : Nat} (T : Tw fa fn ts xb w K mg) : LamFn P w K mg base dlaw_refusal ["_law_work", "_law_error", "e", "_law_told", "_law_words"] "_law_work" (k + 1) S_ref := by
  intro cdg A outer s H TT f S hr hact
  refine ⟨fun i => ([] : List Nat).contains i, _, rfl, (have hu := hu_of hr.rm; have hu65 := hu65_of hr.rm; (vss_cons (vs_set (i := 1) (vx_non pe_non) (fun h => ps_set (i := 1) sc_law_refusal.nd rfl (Or.inl rfl) h))
      (vss_try (ie := 2) (iy := 1) rfl rfl sc_law_refusal.nd rfl rfl ⟨rfl, by decide, .inl (T.g 23)⟩ (takes_of rfl rfl rfl rfl) (exmT_ShelfError T) (fun W pn xe tk _ => (vss_one (vs_expr (hact _ _ _ _ _ rfl rfl tk)))) (fun a oe pn => pss_one (ps_set (i := 1) sc_law_refusal.nd rfl (Or.inl rfl) (pv 2)))
      (vss_cons (vs_if (vt_cmp oIsN (vx_var (pv 1)) (vb_of (vx_non pe_non)) (nomark _)) (vss_one (vs_ret (vx_str pe_str))) vss_nil)
      (vss_cons (vs_set (i := 3) (vx_of (vn_lst (va_cons (vx_isEr (kitT_NoSort T) (pe_gref (T.g 24)) (fun u r => r) (T.b 72) (vx_var (pv 1))) (va_cons (vx_isEr (kitT_NoThings T) (pe_gref (T.g 25)) (fun u r => r) (T.b 72) (vx_var (pv 1))) (va_cons (vx_isEr (kitT_NoDeed T) (pe_gref (T.g 26)) (fun u r => r) (T.b 72) (vx_var (pv 1))) va_nil))))) (fun h => ps_set (i := 3) sc_law_refusal.nd rfl (Or.inl rfl) h))
      (vss_cons (vs_set (i := 3) (vx_op oCatL (vx_var (pv 3)) (vb_of (vx_of (vn_lst (va_cons (vx_isEr (kitT_NoKind T) (pe_gref (T.g 27)) (fun u r => r) (T.b 72) (vx_var (pv 1))) (va_cons (vx_isEr (kitT_TooMany T) (pe_gref (T.g 28)) (fun u r => r) (T.b 72) (vx_var (pv 1))) (va_cons (vx_isEr (kitT_NoProgram T) (pe_gref (T.g 29)) (fun u r => r) (T.b 72) (vx_var (pv 1))) va_nil))))))) (fun h => ps_set (i := 3) sc_law_refusal.nd rfl (Or.inl rfl) h))
      (vss_cons (vs_set (i := 3) (vx_op oCatL (vx_var (pv 3)) (vb_of (vx_of (vn_lst (va_cons (vx_isEr (kitT_NoText T) (pe_gref (T.g 30)) (fun u r => r) (T.b 72) (vx_var (pv 1))) (va_cons (vx_isEr (kitT_NoRun T) (pe_gref (T.g 31)) (fun u r => r) (T.b 72) (vx_var (pv 1))) (va_cons (vx_isEr (kitT_NoCosts T) (pe_gref (T.g 32)) (fun u r => r) (T.b 72) (vx_var (pv 1))) va_nil))))))) (fun h => ps_set (i := 3) sc_law_refusal.nd rfl (Or.inl rfl) h))
      (vss_cons (vs_set (i := 3) (vx_op oCatL (vx_var (pv 3)) (vb_of (vx_of (vn_lst (va_cons (vx_isEr (kitT_NoChoice T) (pe_gref (T.g 33)) (fun u r => r) (T.b 72) (vx_var (pv 1))) (va_cons (vx_isEr (kitT_NoShelf T) (pe_gref (T.g 34)) (fun u r => r) (T.b 72) (vx_var (pv 1))) (va_cons (vx_isEr (kitT_NoRow T) (pe_gref (T.g 35)) (fun u r => r) (T.b 72) (vx_var (pv 1))) va_nil))))))) (fun h => ps_set (i := 3) sc_law_refusal.nd rfl (Or.inl rfl) h))
      (vss_cons (vs_set (i := 4) (vx_of (vn_lst (va_cons (vx_str pe_str) (va_cons (vx_str pe_str) (va_cons (vx_str pe_str) (va_cons (vx_str pe_str) (va_cons (vx_str pe_str) (va_cons (vx_str pe_str) (va_cons (vx_str pe_str) (va_cons (vx_str pe_str) (va_cons (vx_str pe_str) (va_cons (vx_str pe_str) (va_cons (vx_str pe_str) (va_cons (vx_str pe_str) va_nil)))))))))))))) (fun h => ps_set (i := 4) sc_law_refusal.nd rfl (Or.inl rfl) h))
      (vss_cons (vs_if (vt_w (vw_or (vt_cmp oNeI (vx_bm (mtListCountV hu65) (vl_val (vx_var (pv 3))) (va_cons (vx_bl pe_bl) va_nil) (fun h1 h2 h3 => pe_bm PySem.F.plainAttrs_list PySem.F.slot_list_count PySem.F.type_list_count h1 h2 h3)) (vb_of (vx_int pe_int)) (nomark _)) (vw_or1 (vt_not (vt_val (vx_isEr (kitT_ValueError T) (pe_bty (T.b 66) (by decide +kernel)) (fun u r => r) (T.b 72) (vx_var (pv 1)))))))) (vss_one (vs_ret (vx_str pe_str))) vss_nil)
      (vss_one (vs_ret (vx_ix iSeq (vx_var (pv 4)) (vx_bm (mtListIndexV hu65) (vl_val (vx_var (pv 3))) (va_cons (vx_bl pe_bl) va_nil) (fun h1 h2 h3 => pe_bm PySem.F.plainAttrs_list PySem.F.slot_list_index PySem.F.type_list_index h1 h2 h3)))))))))))) (by decide) (show 2 < 5 by decide) rfl rfl rfl))), fun cs Q h => ?_⟩
  walk_at "vrd"
  refine h _ _ (fun d o cs' q => ?_) fun n o cs' wd e q => ?_
  · walk_at "vrd"
    exact q
  · unfold clsW at e
    split at e
    · subst n
      cases e
      walk_at "vrd"
      exact q
    split at e
    · subst n
      cases e
      walk_at "vrd"
      exact q
    · cases e
theorem sc_law_right : FnScope ["_law_state", "_law_costs_here", "_law_toll_here", "_law_ends_here", "_law_held", "_law_good", "_law_due", "_law_told", "_law_end", "_law_many"] ["_law_state"] (defScope slaw_right) := ⟨rfl, rfl, rfl, by decide +kernel, rfl, by decide +kernel, by decide +kernel⟩
theorem v_law_right (T : Tw fa fn ts xb w K mg) (U : Tlam tf K mg base TL) : GFn P w K mg base 20 (He.fAd K dlaw_right.at_) ["_law_state"] (spV K TL 1 [0] S_lright) := by
  obtain ⟨fd, F⟩ := T.says.def_ 21 (d := dlaw_right) rfl
  refine okV (fun i => ([0] : List Nat).contains i) [0] _ F sc_law_right (fun _ _ _ _ _ _ us hl => match us, hl with | [_], _ => rfl) rfl rfl (by decide) ⟨_, fun cdv hcdv A outer s H E hr => have hu := hu_of hr.rm; have hu65 := hu65_of hr.rm; (vss_cons (vs_asg (vx_tup (va_cons (vx_call (v_law_costs T) (hr.mono (by decide)) (T.g 12) (fun σ => passAt (takes_of rfl rfl rfl rfl) σ) (vr_cons (vl_slot (pv 0)) (vr_cons (vl_val (vx_int pe_int)) vr_nil))) (va_cons (vx_call (v_law_toll T) (hr.mono (by decide)) (T.g 13) (fun σ => passAt (takes_of rfl rfl rfl rfl) σ) (vr_cons (vl_slot (pv 0)) vr_nil)) va_nil))) (vg_tup (is := [1, 2]) (gtupK K (n := 2) rfl (pgs_cons (pg_name (i := 1) sc_law_right.nd rfl (Or.inr rfl)) (pgs_cons (pg_name (i := 2) sc_law_right.nd rfl (Or.inr rfl)) pgs_nil))) (show ∀ i, i ∈ ([1, 2] : List Nat) → ([0] : List Nat).contains i = false ∧ ([0] : List Nat).contains i = false by decide)) (fun h1 h2 => ps_asg h1 h2))
      (vss_cons (vs_if (vt_cmp oEqI (vx_call (v_law_take T) (hr.mono (by decide)) (T.g 10) (fun σ => passAt (takes_of rfl rfl rfl rfl) σ) (vr_cons (vl_slot (pv 0)) (vr_cons (vl_val (vx_int pe_int)) vr_nil))) (vb_of (vx_int pe_int)) (nomark _)) (vss_one (vs_set (i := 1) (vx_call (v_law_bent_costs T) (hr.mono (by decide)) (T.g 19) (fun σ => passAt (takes_of rfl rfl rfl rfl) σ) (vr_cons (vl_slot (pv 0)) (vr_cons (vl_val (vx_var (pv 1))) vr_nil))) (fun h => ps_set (i := 1) sc_law_right.nd rfl (Or.inr rfl) h))) vss_nil)
      (vss_cons (vs_if (vt_cmp oEqI (vx_call (v_law_take T) (hr.mono (by decide)) (T.g 10) (fun σ => passAt (takes_of rfl rfl rfl rfl) σ) (vr_cons (vl_slot (pv 0)) (vr_cons (vl_val (vx_int pe_int)) vr_nil))) (vb_of (vx_int pe_int)) (nomark _)) (vss_one (vs_set (i := 2) (vx_call (v_law_pick T) (hr.mono (by decide)) (T.g 11) (fun σ => passAt (takes_of rfl rfl rfl rfl) σ) (vr_cons (vl_slot (pv 0)) (vr_cons (vl_val (vx_of (vn_lst (va_cons (vx_int pe_int) (va_cons (vx_int pe_int) (va_cons (vx_int pe_int) (va_cons (vx_un uNeg (vx_int pe_int)) (va_cons (vx_bl pe_bl) (va_cons (vx_non pe_non) (va_cons (vx_str pe_str) (va_cons (vx_tup (va_cons (vx_int pe_int) va_nil)) (va_cons (vx_op oPow (vx_int pe_int) (vb_of (vx_int pe_int))) va_nil)))))))))))) vr_nil))) (fun h => ps_set (i := 2) sc_law_right.nd rfl (Or.inr rfl) h))) vss_nil)
      (vss_cons (vs_set (i := 3) (vx_call (v_law_ends T) (hr.mono (by decide)) (T.g 20) (fun σ => passAt (takes_of rfl rfl rfl rfl) σ) (vr_cons (vl_slot (pv 0)) (vr_cons (vl_val (vx_if (vt_val (vx_isa (T := "tuple") (by decide +kernel) (T.b 72) (T.b 83) (by decide +kernel) (vb_of (vx_var (pv 1))))) (vx_b1 cLenV (vb_of (vx_var (pv 1))) (fun h1 h2 => pe_callB h1 (by rfl) (T.b 73) (by decide +kernel) h2)) (vx_int pe_int))) vr_nil))) (fun h => ps_set (i := 3) sc_law_right.nd rfl (Or.inr rfl) h))
      (vss_cons (vs_set (i := 4) (vx_b1 (cReprV hr.gd hr.rm.units) (vb_of (vx_of (vn_lst (va_cons (vx_var (pv 1)) (va_cons (vx_var (pv 2)) (va_cons (vx_var (pv 3)) va_nil)))))) (fun h1 h2 => pe_callB h1 (by rfl) (T.b 78) (by decide +kernel) h2)) (fun h => ps_set (i := 4) sc_law_right.nd rfl (Or.inl rfl) h))
      (vss_cons (vs_set (i := 5) (vx_and (vx_call (v_law_is_costs T) (hr.mono (by decide)) (T.g 16) (fun σ => passAt (takes_of rfl rfl rfl rfl) σ) (vr_cons (vl_val (vx_var (pv 1))) vr_nil)) (vx_one (vx_call (v_law_whole T) (hr.mono (by decide)) (T.g 15) (fun σ => passAt (takes_of rfl rfl rfl rfl) σ) (vr_cons (vl_val (vx_var (pv 2))) (vr_cons (vl_val (vx_int pe_int)) (vr_cons (vl_val (vx_int pe_int)) vr_nil)))))) (fun h => ps_set (i := 5) sc_law_right.nd rfl (Or.inl rfl) h))
      (vss_cons (vs_set (i := 6) (vx_ix iSeq (vx_of (vn_lst (va_cons (vx_str pe_str) (va_cons (vx_str pe_str) va_nil)))) (vx_ba cIntV (va_cons (vx_var (pv 5)) va_nil) (fun h1 h2 => pe_callTy h1 (by rfl) (T.b 71) (by decide +kernel) h2))) (fun h => ps_set (i := 6) sc_law_right.nd rfl (Or.inl rfl) h))
      (vss_cons (vs_if (vt_cmp oNeS (vx_lam (k := 10) [0] (l_law_refusal T) (T.says.def_ 14 (d := dlaw_refusal) rfl).choose_spec sc_law_refusal (fun _ _ _ _ _ _ us hl => match us, hl with | [_], _ => rfl) (T.g 14) (U.tb 0) hcdv (U.mem 0) (U.uq 0) (hr.mono (by decide)) rfl (fun _ _ _ _ _ => rfl)
        (fun T' E' A' outer' s' H' f' c' hr => have hu := hu_of hr.rm; have hu65 := hu65_of hr.rm; (vx_call (v_under T) (hr.mono (by decide)) (T.g 7) (fun σ => passAt (takes_of rfl rfl rfl rfl) σ) (vr_cons (vl_val (vx_var (pv 1))) (vr_cons (vl_val (vx_var (pv 2))) vr_nil))))
        (fun i h => List.contains_iff_mem.mp h) (LamX.lamS_by (show LamX.lamSB (defScope slaw_right) _ = true by decide +kernel))) (vb_of (vx_var (pv 6))) (nomark _)) (vss_one (vs_ret (vx_bl pe_bl))) vss_nil)
      (vss_cons (vs_if (vt_w (vw_and (vt_val (vx_var (pv 5))) (vw_and1 (vt_not (vt_val (vx_call (v_law_is_ends T) (hr.mono (by decide)) (T.g 17) (fun σ => passAt (takes_of rfl rfl rfl rfl) σ) (vr_cons (vl_val (vx_var (pv 3))) (vr_cons (vl_val (vx_b1 cLenV (vb_of (vx_var (pv 1))) (fun h1 h2 => pe_callB h1 (by rfl) (T.b 73) (by decide +kernel) h2))) vr_nil)))))))) (vss_one (vs_set (i := 6) (vx_str pe_str) (fun h => ps_set (i := 6) sc_law_right.nd rfl (Or.inl rfl) h))) vss_nil)
      (vss_cons (vs_if (vt_cmp oNeS (vx_lam (k := 10) [0] (l_law_refusal T) (T.says.def_ 14 (d := dlaw_refusal) rfl).choose_spec sc_law_refusal (fun _ _ _ _ _ _ us hl => match us, hl with | [_], _ => rfl) (T.g 14) (U.tb 0) hcdv (U.mem 0) (U.uq 0) (hr.mono (by decide)) rfl (fun _ _ _ _ _ => rfl)
        (fun T' E' A' outer' s' H' f' c' hr => have hu := hu_of hr.rm; have hu65 := hu65_of hr.rm; (vx_call (v_phases_cost T) (hr.mono (by decide)) (T.g 8) (fun σ => passAt (takes_of rfl rfl rfl rfl) σ) (vr_cons (vl_val (vx_var (pv 1))) (vr_cons (vl_val (vx_var (pv 2))) (vr_cons (vl_val (vx_var (pv 3))) vr_nil)))))
        (fun i h => List.contains_iff_mem.mp h) (LamX.lamS_by (show LamX.lamSB (defScope slaw_right) _ = true by decide +kernel))) (vb_of (vx_var (pv 6))) (nomark _)) (vss_one (vs_ret (vx_bl pe_bl))) vss_nil)
      (vss_cons (vs_if (vt_cmp oEqS (vx_var (pv 6)) (vb_of (vx_str pe_str)) (nomark _)) (vss_cons (vs_set (i := 7) (vx_b1 (cSumV rfl) (vb_of (vx_of (vn_lc (vs := [8]) (g := gName 8) (vi_tup (vx_var (pv 3)) (fun h => piT K h)) (dgw_name (by decide) rfl rfl) rfl (fun {wi} hi => pe_lc (own := [("_law_end", 8)]) (g := gName 8) rfl sc_law_right.nd hi (blkOk_by (N := ["_law_state", "_law_costs_here", "_law_toll_here", "_law_ends_here", "_law_held", "_law_good", "_law_due", "_law_told", "_law_end", "_law_many"]) (sc := defScope slaw_right) (by decide +kernel)) (fun _ _ _ _ _ => pg_name (i := 8) sc_law_right.nd rfl (Or.inl rfl)) (fun _ _ _ _ _ => vts_nil) (fun _ _ _ _ _ => VX.can (vx_ba (cMax2V rfl) (va_cons (vx_var (pv 2)) (va_cons (vx_b1 (cMinV rfl) (vb_of (vx_ix iSeq (vx_var (pv 1)) (vx_var (pv 8)))) (fun h1 h2 => pe_callB h1 (by rfl) (T.b 76) (by decide +kernel) h2)) va_nil)) (fun h1 h2 => pe_callB h1 (by rfl) (T.b 75) (by decide +kernel) h2))))))) (fun h1 h2 => pe_callB h1 (by rfl) (T.b 82) (by decide +kernel) h2)) (fun h => ps_set (i := 7) sc_law_right.nd rfl (Or.inl rfl) h))
      (vss_one (vs_if (vt_cmp oNeS (vx_b1 (cReprV hr.gd hr.rm.units) (vb_of (vx_call (v_phases_cost T) (hr.mono (by decide)) (T.g 8) (fun σ => passAt (takes_of rfl rfl rfl rfl) σ) (vr_cons (vl_val (vx_var (pv 1))) (vr_cons (vl_val (vx_var (pv 2))) (vr_cons (vl_val (vx_var (pv 3))) vr_nil))))) (fun h1 h2 => pe_callB h1 (by rfl) (T.b 78) (by decide +kernel) h2)) (vb_of (vx_b1 (cReprV hr.gd hr.rm.units) (vb_of (vx_var (pv 7))) (fun h1 h2 => pe_callB h1 (by rfl) (T.b 78) (by decide +kernel) h2))) (nomark _)) (vss_one (vs_ret (vx_bl pe_bl))) vss_nil))) vss_nil)
      (vss_cons (vs_set (i := 9) (vx_call (v_law_pick T) (hr.mono (by decide)) (T.g 11) (fun σ => passAt (takes_of rfl rfl rfl rfl) σ) (vr_cons (vl_slot (pv 0)) (vr_cons (vl_val (vx_of (vn_lst (va_cons (vx_int pe_int) (va_cons (vx_int pe_int) (va_cons (vx_int pe_int) (va_cons (vx_int pe_int) (va_cons (vx_int pe_int) (va_cons (vx_un uNeg (vx_int pe_int)) (va_cons (vx_bl pe_bl) (va_cons (vx_non pe_non) (va_cons (vx_str pe_str) (va_cons (vx_int pe_int) va_nil))))))))))))) vr_nil))) (fun h => ps_set (i := 9) sc_law_right.nd rfl (Or.inr rfl) h))
      (vss_cons (vs_set (i := 6) (vx_ix iSeq (vx_of (vn_lst (va_cons (vx_str pe_str) (va_cons (vx_str pe_str) va_nil)))) (vx_ba cIntV (va_cons (vx_and (vx_call (v_law_whole T) (hr.mono (by decide)) (T.g 15) (fun σ => passAt (takes_of rfl rfl rfl rfl) σ) (vr_cons (vl_val (vx_var (pv 9))) (vr_cons (vl_val (vx_int pe_int)) (vr_cons (vl_val (vx_int pe_int)) vr_nil)))) (vx_one (vx_call (v_law_whole T) (hr.mono (by decide)) (T.g 15) (fun σ => passAt (takes_of rfl rfl rfl rfl) σ) (vr_cons (vl_val (vx_var (pv 2))) (vr_cons (vl_val (vx_int pe_int)) (vr_cons (vl_val (vx_int pe_int)) vr_nil)))))) va_nil) (fun h1 h2 => pe_callTy h1 (by rfl) (T.b 71) (by decide +kernel) h2))) (fun h => ps_set (i := 6) sc_law_right.nd rfl (Or.inl rfl) h))
      (vss_one (vs_ret (vx_and (vx_cmp oEqS (vx_lam (k := 10) [0] (l_law_refusal T) (T.says.def_ 14 (d := dlaw_refusal) rfl).choose_spec sc_law_refusal (fun _ _ _ _ _ _ us hl => match us, hl with | [_], _ => rfl) (T.g 14) (U.tb 0) hcdv (U.mem 0) (U.uq 0) (hr.mono (by decide)) rfl (fun _ _ _ _ _ => rfl)
        (fun T' E' A' outer' s' H' f' c' hr => have hu := hu_of hr.rm; have hu65 := hu65_of hr.rm; (vx_of (vn_make (n := "Under") (vr_cons (vl_val (vx_var (pv 9))) (vr_cons (vl_val (vx_var (pv 2))) vr_nil)) (fun h => gk (E := WE _) (T.mkr 56) (v_Under_init T) (hr.mono (by decide)) (T.g 36) (fun σ => passAt (takes_of rfl rfl rfl rfl) σ) h))))
        (fun i h => List.contains_iff_mem.mp h) (LamX.lamS_by (show LamX.lamSB (defScope slaw_right) _ = true by decide +kernel))) (vb_of (vx_var (pv 6))) (nomark _)) (vx_one (vx_cmp oEqS (vx_b1 (cReprV hr.gd hr.rm.units) (vb_of (vx_of (vn_lst (va_cons (vx_var (pv 1)) (va_cons (vx_var (pv 2)) (va_cons (vx_var (pv 3)) va_nil)))))) (fun h1 h2 => pe_callB h1 (by rfl) (T.b 78) (by decide +kernel) h2)) (vb_of (vx_var (pv 4))) (nomark _))))))))))))))))))), fun ds cs Q Er hl h => ?_⟩
  clear hl
  obtain ⟨st, rfl, hst, k⟩ := h
  walk_at "vrd"
  walk_at "call"
  refine ⟨_, rfl, hst, fun rows n st hr hl9 hst => ?_⟩
  walk_at "vrd"
  walk_at "call"
  refine ⟨_, rfl, hst, fun toll st ht1 ht2 hst => ?_⟩
  walk_at "vrd"
  generalize hV : kSeq (sSeq (sIf _ _ _) _) (vends [0] Q Er) = V
  have exit : ∀ st x, StOk st → Gd 230000 4 x → (∀ es, x = .tuple es → es.length ≤ 400) → V.nx ⟨[some st, some x, some (.int toll), none, none, none, none, none, none, none], cs⟩ := by
    intro st x hst hx hxl
    subst hV
    walk_at "vrd"
    generalize hR : sSeq (sSet 3 _) _ = R
    have tail : ∀ st t, StOk st → Gd 100 1 t → R ⟨[some st, some x, some t, none, none, none, none, none, none, none], cs⟩ (vends [0] Q Er) := by
      intro st t hst ht
      subst hR
      generalize hR : sSeq (sSet 4 _) _ = R
      have tail : ∀ st y, StOk st → Gd 60000 1 y → (∀ es, y = .tuple es → es.length ≤ 1000) → R ⟨[some st, some x, some t, some y, none, none, none, none, none, none], cs⟩ (vends [0] Q Er) := by
        intro st y hst hy hyl
        subst hR
        obtain ⟨S, hS⟩ : ∃ S, gRepr (.list [x, t, y]) = some (.str S) := ⟨_, (Gd.lst (w := 230000) (n := 4) (m := 3) (fun d hd => by
          simp only [List.mem_cons, List.not_mem_nil, or_false] at hd
          rcases hd with rfl | rfl | rfl
          · exact hx
          · exact ht.mono
          · exact hy.mono) (by simp)).rep⟩
        generalize hZ : sSeq (sSet 9 _) _ = Z
        generalize hY : sSeq (sSet 6 _) _ = Y
        have fin : ∀ st d5 d6 x7, StOk st → Z ⟨[some st, some x, some t, some y, some (.str S), d5, d6, x7, none, none], cs⟩ (vends [0] Q Er) := by
          intro st d5 d6 x7 hst
          subst hZ
          walk_at "vrd"
          walk_at "call"
          refine ⟨_, _, rfl, hst, by simp, by simp, fun m st hm hst => ?_⟩
          have hms : Sd m := by
            simp only [List.mem_cons, List.not_mem_nil, or_false] at hm
            rcases hm with rfl | rfl | rfl | rfl | rfl | rfl | rfl | rfl | rfl | rfl
            all_goals first | exact Sd.int _ | exact Sd.bool _ | exact Sd.none | exact Sd.str (strOk_of _) (by decide)
          walk_at "vrd"
          walk_at "call"
          refine ⟨m, _, _, rfl, hms, ?_⟩
          walk_at "vrd"
          cases e1 : isBt m 1 5 with
          | false =>
            have hg : (isBt m 1 5 && tollB t) = false := by rw [e1]; rfl
            walk_at "vrd"
            intro A B hA hB
            walk_at "vrd"
            intro q hq
            refine Dv.r_call [.ins "Under" [], m, t] [.inr q] (by simp only [valsOf, Dv.valOf, cput_same]) rfl (by simp) rfl rfl ?_
            refine ⟨m, t, rfl, hms, ht.sd, fun n0 t0 q1 q2 h1 h2 h3 h4 => ?_, fun _ => ?_⟩
            · exfalso
              rw [q1, q2, show isBt (.int n0) 1 5 = true from by rw [bt_range]; exact decide_eq_true (by omega), show tollB (.int t0) = true from by unfold tollB; rw [bt_range]; exact decide_eq_true (by omega)] at hg
              cases hg
            · refine hB _ _ _ "costs" (by decide) ?_
              walk_at "vrd"
              rw [hS]
              walk_at "vrd"
              exact k _ _ hst
          | true =>
            walk_at "vrd"
            walk_at "call"
            refine ⟨t, _, _, rfl, ht.sd, ?_⟩
            walk_at "vrd"
            cases e2 : isBt t 1 1000 with
            | false =>
              have hg : (isBt m 1 5 && tollB t) = false := by unfold tollB; rw [e1, e2]; rfl
              walk_at "vrd"
              intro A B hA hB
              walk_at "vrd"
              intro q hq
              refine Dv.r_call [.ins "Under" [], m, t] [.inr q] (by simp only [valsOf, Dv.valOf, cput_same]) rfl (by simp) rfl rfl ?_
              refine ⟨m, t, rfl, hms, ht.sd, fun n0 t0 q1 q2 h1 h2 h3 h4 => ?_, fun _ => ?_⟩
              · exfalso
                rw [q1, q2, show isBt (.int n0) 1 5 = true from by rw [bt_range]; exact decide_eq_true (by omega), show tollB (.int t0) = true from by unfold tollB; rw [bt_range]; exact decide_eq_true (by omega)] at hg
                cases hg
              · refine hB _ _ _ "costs" (by decide) ?_
                walk_at "vrd"
                rw [hS]
                walk_at "vrd"
                exact k _ _ hst
            | true =>
              have hg : (isBt m 1 5 && tollB t) = true := by unfold tollB; rw [e1, e2]; rfl
              walk_at "vrd"
              intro A B hA hB
              walk_at "vrd"
              intro q hq
              refine Dv.r_call [.ins "Under" [], m, t] [.inr q] (by simp only [valsOf, Dv.valOf, cput_same]) rfl (by simp) rfl rfl ?_
              refine ⟨m, t, rfl, hms, ht.sd, fun n0 t0 q1 q2 h1 h2 h3 h4 => ?_, fun h => ?_⟩
              · walk_at "vrd"
                refine hA _ _ _ ?_
                walk_at "vrd"
                rw [hS]
                walk_at "vrd"
                exact k _ _ hst
              · rename_i h
                rw [hg] at h
                cases h
        have bad : (costsB x && tollB t) = false → Y ⟨[some st, some x, some t, some y, some (.str S), some (.bool false), none, none, none, none], cs⟩ (vends [0] Q Er) := by
          intro hg
          have no : ∀ rows n (toll : Int), x = .tuple (rowsD rows) → t = .int toll → Rows rows n → 1 ≤ toll → toll ≤ 1000 → False := by
            rintro rows n toll rfl rfl hr h1 h2
            rw [rows_costsB hr, show tollB (.int toll) = true from by unfold tollB; rw [bt_range]; exact decide_eq_true ⟨h1, h2⟩] at hg
            cases hg
          subst hY
          walk_at "vrd"
          intro A B hA hB
          walk_at "vrd"
          walk_at "call"
          refine ⟨x, t, rfl, hx.sd, ht.sd, fun rows n toll e1 e2 hr _ h1 h2 => (no rows n toll e1 e2 hr h1 h2).elim, fun _ => ?_⟩
          refine hB _ _ _ "costs" (by decide) ?_
          walk_at "vrd"
          intro A B hA hB
          walk_at "vrd"
          walk_at "call"
          refine ⟨x, t, y, rfl, hx.sd, ht.sd, hy.sd, hyl, fun _ => ?_, fun rows n toll e1 e2 hr h1 h2 => (no rows n toll e1 e2 hr h1 h2).elim⟩
          refine hB _ _ _ "costs" (by decide) ?_
          walk_at "vrd"
          exact fin st _ _ _ hst
        have good : (costsB x && tollB t) = true → Y ⟨[some st, some x, some t, some y, some (.str S), some (.bool true), none, none, none, none], cs⟩ (vends [0] Q Er) := by
          intro hg
          subst hY
          have hg2 := Bool.and_eq_true_iff.mp hg
          obtain ⟨rs, n, rfl, hr, _⟩ := costs_int hg2.1
          obtain ⟨tl, rfl, ht1, ht2⟩ := bt_int hg2.2
          have hm := hr.many
          walk_at "vrd"
          intro A B hA hB
          walk_at "vrd"
          walk_at "call"
          refine ⟨_, _, rfl, hx.sd, ht.sd, fun _ _ _ _ _ _ _ _ _ => ?_, fun h => by rw [hg] at h; cases h⟩
          refine hA _ _ _ ?_
          walk_at "vrd"
          walk_at "call"
          refine ⟨y, _, rfl, hy.sd, hyl, ?_⟩
          walk_at "vrd"
          rw [rowsD_len]
          cases e3 : endsB y rs.length with
          | false =>
            walk_at "vrd"
            intro A B hA hB
            walk_at "vrd"
            walk_at "call"
            refine ⟨_, _, y, rfl, hx.sd, ht.sd, hy.sd, hyl, fun h => (by rw [hg] at h; cases h), fun rs1 _ tl1 e1 e2 _ _ _ => ⟨fun _ => ?_, fun ns e hns hs => ?_⟩⟩
            · refine hB _ _ _ "choice" (by decide) ?_
              walk_at "vrd"
              exact fin st _ _ _ hst
            · exfalso
              injection e1 with e1
              rw [e, rowsD_inj e1, int_ends hns hs] at e3
              cases e3
          | true =>
            obtain ⟨ns, rfl, hns, hs⟩ := ends_int e3
            have hyl := hyl _ rfl
            rw [List.length_map] at hyl
            walk_at "vrd"
            intro A B hA hB
            walk_at "vrd"
            walk_at "call"
            refine ⟨_, _, _, rfl, hx.sd, ht.sd, hy.sd, fun es e => by cases e; rw [List.length_map]; exact hyl, fun h => (by rw [hg] at h; cases h), fun rs1 _ tl1 e1 e2 _ _ _ => ⟨fun h => ?_, fun _ _ _ _ => ?_⟩⟩
            · exfalso
              injection e1 with e1
              rw [← rowsD_inj e1, e3] at h
              cases h
            · refine hA _ _ _ ?_
              walk_at "vrd"
              refine r_mapG (fun i : Int => .int i) (fun e => .int (max tl (lmin (UM.row rs e.toNat)))) rfl (by omega) (fun e he R N hR => ?_) ?_
              · have h0 := hns e he
                have hi : e.toNat < rs.length := by omega
                have hrow := row_at hr hi
                have hn1 := hr.n1
                walk_at "vrd"
                rw [show gIx (.tuple (rowsD rs)) (.int e) = some (.tuple ((UM.row rs e.toNat).map .int)) from by rw [ixT_i h0.1]; exact rowsD_get hi]
                walk_at "vrd"
                rw [minT_i (ns := UM.row rs e.toNat) (by intro z; rw [z] at hrow; have := hrow.1; simp at this; omega)]
                walk_at "vrd"
                exact hR
              walk_at "vrd"
              rw [show ns.map (fun e => Dt.int (max tl (lmin (UM.row rs e.toNat)))) = (ns.map fun e => max tl (lmin (UM.row rs e.toNat))).map Dt.int from by rw [List.map_map]; rfl]
              walk_at "vrd"
              walk_at "call"
              refine ⟨_, _, _, rfl, hx.sd, ht.sd, hy.sd, fun es e => by cases e; rw [List.length_map]; exact hyl, fun h => (by rw [hg] at h; cases h), fun rs1 _ tl1 e1 e2 _ _ _ => ⟨fun h => ?_, fun ns1 e _ _ => ?_⟩⟩
              · exfalso
                injection e1 with e1
                rw [← rowsD_inj e1, e3] at h
                cases h
              · injection e1 with e1
                injection e2 with e2
                injection e with e
                obtain rfl := rowsD_inj e1
                obtain rfl := ints_inj e
                subst e2
                have hb : ((ns.map fun e => max tl (lmin (UM.row rs e.toNat))).sum).natAbs < 10 ^ 31 := by
                  have := sum_b (f := fun e => max tl (lmin (UM.row rs e.toNat))) ns fun e he => by
                    have h0 := hns e he
                    have hi : e.toNat < rs.length := by omega
                    have hrow := row_at hr hi
                    have hn1 := hr.n1
                    have := hrow.2 _ (lmin_mem (by intro z; rw [z] at hrow; have := hrow.1; simp at this; omega))
                    omega
                  exact abs_lt (by omega) (by omega)
                unfold phSum
                walk_at "vrd"
                rw [rep_int hb]
                walk_at "vrd"
                rw [rep_int hb]
                walk_at "vrd"
                exact fin st _ _ _ hst
        walk_at "vrd"
        rw [hS]
        walk_at "vrd"
        walk_at "call"
        refine ⟨x, rfl, hx.sd, ?_⟩
        walk_at "vrd"
        cases e1 : costsB x with
        | false =>
          walk_at "vrd"
          exact bad (by rw [e1]; rfl)
        | true =>
          walk_at "vrd"
          walk_at "call"
          refine ⟨t, _, _, rfl, ht.sd, ?_⟩
          walk_at "vrd"
          cases e2 : isBt t 1 1000 with
          | false => exact bad (by unfold tollB; rw [e1, e2]; rfl)
          | true => exact good (by unfold tollB; rw [e1, e2]; rfl)
      have hxt := hx.sd.ty
      cases x <;> first | (cases hxt; done) | skip
      all_goals walk_at "vrd"
      all_goals walk_at "call"
      all_goals refine ⟨_, _, rfl, hst, ?_, ?_, fun y st hy hyl hst => ?_⟩
      all_goals first | omega | (have := hxl _ rfl; omega) | skip
      all_goals walk_at "vrd"
      all_goals exact tail st y hst hy hyl
    walk_at "call"
    refine ⟨_, _, rfl, hst, by decide, by decide, fun v st hv0 hv1 hst => ?_⟩
    walk_at "vrd"
    split
    · rw [show gPow (.int 10) (.int 30) = some (.int 1000000000000000000000000000000) from rfl]
      walk_at "vrd"
      walk_at "call"
      refine ⟨_, _, rfl, hst, by simp, by simp, fun t st ht hst => ?_⟩
      walk_at "vrd"
      refine tail st t hst ?_
      simp only [List.mem_cons, List.not_mem_nil, or_false] at ht
      rcases ht with rfl | rfl | rfl | rfl | rfl | rfl | rfl | rfl | rfl
      · exact (Gd.int (by decide)).mono
      · exact (Gd.int (by decide)).mono
      · exact (Gd.int (by decide)).mono
      · exact (Gd.int (by decide)).mono
      · exact (Gd.bool _).mono
      · exact Gd.none.mono
      · exact (Gd.str (m := 2) (strOk_of "7") (by decide)).mono
      · exact (Gd.ints (ns := [7]) (m := 1) (fun i m => by cases List.mem_singleton.mp m; decide) (by simp)).mono
      · exact (Gd.int (by decide)).mono
    · exact tail st _ hst (Gd.int (abs_lt (by omega) (by omega))).mono
  have ga : ∀ d ∈ rowsD rows, Gd 174 1 d := fun d hd => by
    obtain ⟨ns, rfl, _, h2, h3⟩ := gd_row hr hd
    exact gd_rowT h2 h3
  have gl : (rowsD rows).length ≤ 9 := by rw [rowsD_len]; exact hl9
  walk_at "call"
  refine ⟨_, _, rfl, hst, by decide, by decide, fun v st hv0 hv1 hst => ?_⟩
  walk_at "vrd"
  split
  · walk_at "call"
    refine ⟨_, rows, n, rfl, hst, hr, hl9, fun x st hx hxl hst => ?_⟩
    walk_at "vrd"
    exact exit st x hst hx hxl
  · exact exit st _ hst (Gd.tup (w := 174) (n := 1) (m := 9) ga gl).mono (fun es e => by cases e; omega)
theorem sc_law : FnScope ["_law_script", "_law_state", "_law_turn"] ["_law_script"] (defScope slaw) := ⟨rfl, rfl, rfl, by decide +kernel, rfl, by decide +kernel, by decide +kernel⟩
theorem v_law (T : Tw fa fn ts xb w K mg) (U : Tlam tf K mg base TL) : GFn P w K mg base 21 (He.fAd K dlaw.at_) ["_law_script"] (spV K TL 1 [] S_law) := by
  obtain ⟨fd, F⟩ := T.says.def_ 22 (d := dlaw) rfl
  refine okV (fun i => ([] : List Nat).contains i) [] _ F sc_law (fun _ _ _ _ _ _ us hl => match us, hl with | [_], _ => rfl) rfl rfl (by decide) ⟨_, fun cdv hcdv A outer s H E hr => have hu := hu_of hr.rm; have hu65 := hu65_of hr.rm; (vss_cons (vs_set (i := 1) (vx_call (v_law_begun T) (hr.mono (by decide)) (T.g 9) (fun σ => passAt (takes_of rfl rfl rfl rfl) σ) (vr_cons (vl_val (vx_var (pv 0))) vr_nil)) (fun h => ps_set (i := 1) sc_law.nd rfl (Or.inl rfl) h))
      (vss_cons (vs_for (vi_rg1 (va_cons (vx_op oAdd (vx_int pe_int) (vb_of (vx_ba (cMin2V rfl) (va_cons (vx_b1 cLenV (vb_of (vx_var (pv 0))) (fun h1 h2 => pe_callB h1 (by rfl) (T.b 73) (by decide +kernel) h2)) (va_cons (vx_int pe_int) va_nil)) (fun h1 h2 => pe_callB h1 (by rfl) (T.b 76) (by decide +kernel) h2)))) va_nil) (fun h => pi_range1 rfl (T.b 77) h)) (vg_name (pg_name (i := 2) sc_law.nd rfl (Or.inl rfl))) (vss_one (vs_if (vt_not (vt_val (vx_call (v_law_right T U) (hr.mono (by decide)) (T.g 21) (fun σ => passAt (takes_of rfl rfl rfl rfl) σ) (vr_cons (vl_cell (vx_var (pv 1))) vr_nil)))) (vss_one (vs_ret (vx_bl pe_bl))) vss_nil)) (fun h1 h2 h3 => ps_for (passes_of rfl) rfl h1 h2 h3))
      (vss_one (vs_ret (vx_bl pe_bl))))), fun ds cs Q Er hl h => ?_⟩
  clear hl
  obtain ⟨c, rfl, hlen, k⟩ := h
  walk_at "vrd"
  walk_at "call"
  refine ⟨c, rfl, hlen, fun a st ha hst => ?_⟩
  walk_at "vrd"
  refine ⟨by omega, by omega, ?_⟩
  refine r_for (fun _ s => ∃ st x cs, s = ⟨[some (.lsF c), some (.ref a), x], cput cs a (some st)⟩ ∧ StOk st) ⟨_, _, _, rfl, hst⟩ ?_ ?_
  · rintro i s d hd ⟨st, x, cs, rfl, hst⟩
    walk_at "vrd"
    refine Dv.r_call [st] [.inr a] (by simp only [valsOf, Dv.valOf, cput_same]) rfl (by simp) rfl rfl ?_
    refine ⟨st, rfl, hst, fun st' cs' hst' => ?_⟩
    walk_at "vrd"
    exact ⟨_, _, _, rfl, hst'⟩
  · rintro s ⟨st, x, cs, rfl, hst⟩
    walk_at "vrd"
    exact k _
end
end VU
/-! the end: the head's run, the law's walk. -/
open PySem PySem.W PySem.Calls PyProof.Rows
set_option maxHeartbeats 0 in
theorem PySem.Challenge.cw_turnshelf_k87_under_way_refused_holds : PySem.Challenge.rw_turnshelf_k87_under_way_refused.Holds := by
  w_on; o_law
  refine HandSHeadRun.head_any (r := K87.R) (q := view K87.R.prog [46]) (H := K87.hk) (ob := K87.ob) (M := 8000) (loose := K87.loose) (d := HandSHeadRun.topDef K87.R.prog 46) (kwd := []) K87.ob_eq
    (by kernel_rfl) (fun s => by kernel_rfl) K87.run (by kernel_rfl) (by kernel_rfl) (by kernel_rfl) (by rfl) (by first | assumption | decide +kernel) (by decide +kernel) ⟨rfl, rfl, rfl, rfl, rfl, by decide +kernel⟩ ?hw ?hc
  case hw => w_witness2
  case hc =>
    refine Dv.walkT (l := PySem.Challenge.rw_turnshelf_k87_under_way_refused) (n := 63) (k := 21) (x := "_law_script") rfl (by decide) (by kernel_rfl) ⟨rfl, by decide, by decide⟩ ?F
    intro w mg fa h Y G hmg0
    obtain ⟨K, KX, c⟩ := Y
    have hmg : mg ("law" : PySem.Str) = some (.ref fa) := by
      have e : (HandSHeadRun.topDef K87.R.prog 46).name = ("law" : PySem.Str) := by kernel_rfl
      rw [← e]
      exact hmg0
    have T : Dv.Tw K87.fa K87.fn K87.ts K87.xb w K mg := Dv.ty_of KX G c
    have ef := hmg.symm.trans (T.g 22)
    cases ef
    exact ⟨K, K87.tf, VU.S_law, KX, c.hd, c.out, c.empty, T.apart 30, fun ns hl _ => ⟨ns, rfl, hl, fun _ => rfl⟩, fun base _ _ TL U => VU.v_law T U⟩
