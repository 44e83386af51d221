import PyProof.Rows.All
import Wide.All
import OpenK.AllK
import Wide.FinOn
import KE.KStateDown
import Lean
import HandS.ForMost
import HandS.ForExc
import HandS.Defaults
import HandS.Head0
import HandS.Head1
import HandS.Head2
import HandS.HeadEnd
import HandS.HeadHook1
import HandS.HeadHook2
import HandS.Steps
import HandS.Walk
import HandS.Evl
import HandS.IsInst
import HandS.TupMul
import HandS.TupAny
import HandS.SetFor
import HandS.Strs
import HandS.Zip
import HandS.Rev
import HandS.Conv
import HandS.Style
import HandS.Deep
import KE.GoesEnum
import KE.GoesMore
import PyProof.ReprReads
import PyProof.ReprRoads
import HandS.RaiseMore
import HandS.SortInts
import HandS.ExcIs
import KE.GoesZip
import HandS.TryOnly
import PySem.Challenge.RW_turnshelf_k96_whole_under_way_within
set_option Elab.async false
set_option linter.all false
set_option maxRecDepth 100000
set_option maxHeartbeats 4000000
/-! TsBase: promises of defs where no guard of repr runs (so that repr of data may be asked), calls by them, the law's end. -/
namespace Ts
open PySem PySem.Spec PyProof.Rows L2

/-- room, and no guarded call is under way -/
structure GRoom (k : Nat) (A : Around) : Prop where
  rm : Room k A
  gd : A.guards = some []
theorem GRoom.mono {j k : Nat} {A : Around} (r : GRoom k A) (h : j ≤ k) : GRoom j A := ⟨r.rm.mono h, r.gd⟩
theorem GRoom.deeper {k : Nat} {A : Around} (r : GRoom (k + 1) A) (env : Env) : GRoom k (A.deeper env) := ⟨r.rm.deeper env, r.gd⟩
theorem make_guards {A : Around} {C : Addr} {us : List Value} {kw : List (Str × Value)} : (A.under (.builtin "type.__call__" ⟨.ref C :: us, kw⟩)).guards = A.guards := by
  have hz : (Code.builtin "type.__call__" ⟨.ref C :: us, kw⟩).guards = [] := by
    have e : (Code.builtin "type.__call__" ⟨.ref C :: us, kw⟩).isGuard = false := by
      show guardIds.contains "type.__call__" = false
      decide +kernel
    unfold Code.guards
    rw [e]
    rfl
  simp [Around.under, hz, pushGuards]
theorem GRoom.make {k : Nat} {A : Around} (r : GRoom (k + 1) A) (C : Addr) (us : List Value) (kw : List (Str × Value)) :
    GRoom k (A.under (.builtin "type.__call__" ⟨.ref C :: us, kw⟩)) := ⟨r.rm.make C us kw, make_guards.trans r.gd⟩

/-- the def at f keeps the promise sp, called by places -/
structure GFn (P : Program) (w : World) (K : PySem.W.Frag) (mg : Str → Option Value) (base : Heap) (k : Nat) (f : Addr) (ps : List Str) (sp : Sp) : Prop where
  len : ∀ vs H Q E, sp vs H Q E → vs.length = ps.length
  kp : PySem.W.keepIn K (.ref f) = true
  run : ∀ (A : Around) (outer : List Env) (s : Shared) (H : Hp) (us : List Value) (vs : List V) (Q : VK) (E : XK), GRoom k A → Env0 P w K mg base A outer s H → Vals vs us → sp vs H Q E →
    codeAny (model P w) A (.call (.ref f) ⟨us, []⟩) (CR (L2.CX P w) outer P w H s Q E) s
theorem GFn.mono {P : Program} {w : World} {K : PySem.W.Frag} {mg : Str → Option Value} {base : Heap} {j k : Nat} {f : Addr} {ps : List Str} {sp : Sp} (F : GFn P w K mg base j f ps sp) (h : j ≤ k) : GFn P w K mg base k f ps sp :=
  ⟨F.len, F.kp, fun A outer s H us vs Q E hr => F.run A outer s H us vs Q E (hr.mono h)⟩

/-! ### a def of the text -/
abbrev BindsP (ps : List Str) (d : He.DefD) : Prop := ∀ (kV doc pm : Value) (an : Option Addr) (cdv ct : Value) (us : List Value), us.length = ps.length →
  bindArgs (PySem.W.fnOf d.name d.qual d.params d.body d.scope .none kV doc pm an cdv ct) ⟨us, []⟩ = pure (ps.zip us)
section
variable {P : Program} {w : World} {K : PySem.W.Frag} {mg : Str → Option Value} {base : Heap}
abbrev bodyCx (P : Program) (w : World) (K : PySem.W.Frag) (mg : Str → Option Value) (base : Heap) (N : List Str) (d : He.DefD) (cdv : Value) (A : Around) (outer : List Env) (s : Shared) (H : Hp) (E : XK) : Cx :=
  cxOf (L2.CX P w) P w K mg base N d.qual d.scope (He.fAd K d.at_) cdv A outer s H E
/-- a def by its body, in which things may be raised -/
theorem okX {d : He.DefD} {fd : FuncData} {N ps : List Str} {k : Nat} {sp : Sp} (F : FunD K d.name d.qual d.params d.body d.scope [] [] (He.fAd K d.at_) fd) (S : FnScope N ps d.scope)
    (len : ∀ vs H Q E, sp vs H Q E → vs.length = ps.length) (hb : BindsP ps d)
    (hbody : ∀ (cdv : Value) (A : Around) (outer : List Env) (s : Shared) (H : Hp) (vs : List V) (Q : VK) (E : XK), GRoom k (A.deeper (envOfC d.qual d.scope s.heap.objs.size (He.fAd K d.at_) cdv)) → sp vs H Q E →
      ∃ t, PSs (bodyCx P w K mg base N d cdv A outer s H E) d.body t ∧ t { nx := fun _ H' => Q .non H', rt := Q } (start N vs) H) :
    GFn P w K mg base (k + 1) (He.fAd K d.at_) ps sp := by
  obtain ⟨oc, od, dV, kV, doc, pm, an, cdv, ct, osl, rfl, lk, hcd, hD, _⟩ := F.ex
  have hdV : dV = .none := by
    rcases hD with ⟨_, z⟩ | ⟨z, _⟩
    · exact z
    · exact absurd rfl z
  subst hdV
  refine ⟨len, F.kp, fun A outer s H us vs Q E hr e0 rv hsp => ?_⟩
  have hl : vs.length = ps.length := len vs H Q E hsp
  have hin : K.In s.heap := e0.mod.kin.keeps (fun b o e => (e0.bs b o e).1)
  have hlim : s.heap.NoLimit := e0.mod.nolimit.keeps (fun b o e => (e0.bs b o e).1)
  have kinds : ∀ y ∈ ps.zip us, d.scope.names.lookup y.1 = some .local ∨ (d.scope.names.lookup y.1 = some .cell ∧ ((cellsFrom (s.heap.objs.size + 1) d.scope.names []).lookup y.1).isSome = true) := by
    rintro ⟨n, v⟩ hy
    cases S.par n (List.of_mem_zip hy).1 with
    | inl q => exact Or.inl q
    | inr q => exact Or.inr ⟨q, PySem.W.cellsFrom_some _ _ _ (Or.inl q)⟩
  have hbd : bindArgs (PySem.W.fnOf d.name d.qual d.params d.body d.scope .none kV doc pm an cdv ct) ⟨us, []⟩ = pure (ps.zip us) := hb kV doc pm an cdv ct us (by rw [← rv.length]; exact hl)
  refine codeAny_call_function hr.rm.depth (hin _ _ lk) rfl S.co S.gen rfl (PySem.W.codeRec_of hin hcd) ((BindsTo.of_eq hbd) _ _ _ _ ?_)
  refine wpAny_newFunctionEnv_cells S.kind kinds (fun env he s1 x => ?_)
  subst he
  refine ⟨hlim.keeps x.toInCall.keep, codeAny_func ?_⟩
  obtain ⟨t, ht, hq⟩ := hbody cdv A outer s H vs Q E (hr.deeper _) hsp
  have J0 : Inv (bodyCx P w K mg base N d cdv A outer s H E) [] (start N vs) H s1 := inv_start S hr.rm.hd e0 hl rv x
  refine wpAny_mono (ht.run [] s1 (start N vs) H _ J0 hq) (fun fl s' hs => ?_) (fun e s' hs => hs)
  have close : ∀ {σ' : L2.St} {H' : Hp} {v : V} {u : Value}, Inv (bodyCx P w K mg base N d cdv A outer s H E) [] σ' H' s' → RelV v u → Q v H' → CE outer P w H s Q u s' := by
    intro σ' H' v u J r q
    exact ⟨v, H', J.os, J.bare, J.base, J.hok, r, q⟩
  cases fl with
  | next =>
    obtain ⟨_, _, J, q⟩ := hs
    exact close (v := V.non) (u := Value.none) J rfl q
  | ret u =>
    obtain ⟨_, _, _, J, r, q⟩ := hs
    exact close J r q
  | brk => exact (hs.choose_spec.choose_spec.2 : False).elim
  | cont => exact (hs.choose_spec.choose_spec.2 : False).elim
/-- a def by its body, of which nothing is let out -/
theorem ok0 {d : He.DefD} {fd : FuncData} {N ps : List Str} {k : Nat} {sp : Sp} (F : FunD K d.name d.qual d.params d.body d.scope [] [] (He.fAd K d.at_) fd) (S : FnScope N ps d.scope)
    (len : ∀ vs H Q E, sp vs H Q E → vs.length = ps.length) (hb : BindsP ps d)
    (hbody : ∀ (cdv : Value) (A : Around) (outer : List Env) (s : Shared) (H : Hp) (vs : List V) (Q : VK) (E : XK), GRoom k (A.deeper (envOfC d.qual d.scope s.heap.objs.size (He.fAd K d.at_) cdv)) → sp vs H Q E →
      ∃ t, PSs (bodyCx P w K mg base N d cdv A outer s H E).nox d.body t ∧ t { nx := fun _ H' => Q .non H', rt := Q } (start N vs) H) :
    GFn P w K mg base (k + 1) (He.fAd K d.at_) ps sp :=
  okX F S len hb fun cdv A outer s H vs Q E hr hsp => by
    obtain ⟨t, h, q⟩ := hbody cdv A outer s H vs Q E hr hsp
    exact ⟨t, h.nox, q⟩
end

/-! ### calls -/
section
variable {X : Cx} {k : Nat} {f C : Addr} {ps : List Str} {sp : Sp} {E : L2.St → XK} {x m : Str} {p pos apos : Pos} {e o : Expr} {es : List Expr} {ta : TE} {t : TA}
/-- nothing leaves -/
abbrev EN : L2.St → XK := fun _ _ _ _ => False
theorem pn {X : Cx} (σ : L2.St) : PassesAt (L2.CX X.prog X.w) X σ (EN σ) := by
  intro _ _ _ _ _ _ h
  obtain ⟨_, _, _, _, _, _, _, _, _, _, _, _, z⟩ := h
  exact z.elim
theorem g_run {pins : List (Addr × Obj)} {σ : L2.St} {H : Hp} {s : Shared} {Q : VK} {us : List Value} {vs : List V} (F : GFn X.prog X.w X.K X.mg X.base k f ps sp) (hr : GRoom k X.A) (hx : PassesAt (L2.CX X.prog X.w) X σ (E σ))
    (I : Inv X pins σ H s) (r : Vals vs us) (h : sp vs H Q (E σ)) : wpAny (model X.prog X.w) X.A (call (.ref f) us) (EP X pins σ Q) X.xe s := by
  refine wpAny_call (codeAny_mono (F.run X.A X.stack s H us vs Q (E σ) hr I.env0 r h) (fun r s' hq => ?_))
  match r, hq with
  | .error e, hq => exact hx pins H s e s' I hq
  | .ok (.ret u), hq => exact I.after hq
/-- f(e, ..) -/
theorem gc (F : GFn X.prog X.w X.K X.mg X.base k f ps sp) (hr : GRoom k X.A) (hm : X.mg x = some (.ref f)) (hx : ∀ σ, PassesAt (L2.CX X.prog X.w) X σ (E σ)) (ha : PA X (e :: es) t) (hg : Gl X x := by rfl) (hdb : (x == ("__debug__" : Str)) = false := by decide)
    (he : starEach (e :: es) X.env = (false, eval e X.env) :: starEach es X.env := by rfl) (hpl : (backTo pos (starEach es X.env)).any (·.1) = false := by rfl) :
    PE X (.Call (.Name x p) (e :: es) [] pos) (tCallS sp E t) := by
  constructor
  intro pins s σ H Q I h
  refine wpAny_Call_Name_kw (ld_glob I hg hm
    (PySem.W.callWith_K (h₀ := X.base) I.ok.mod.kin F.kp (thn (ha.run pos pins s σ H _ I h) fun us s1 h1 => ?_) he hpl) hdb)
  obtain ⟨vs, H1, I1, r, q⟩ := h1
  exact ⟨I1.kIn, g_run F hr (hx σ) I1 r q⟩
/-- f() -/
theorem gc0 (F : GFn X.prog X.w X.K X.mg X.base k f ps sp) (hr : GRoom k X.A) (hm : X.mg x = some (.ref f)) (hx : ∀ σ, PassesAt (L2.CX X.prog X.w) X σ (E σ)) (hg : Gl X x := by rfl) (hdb : (x == ("__debug__" : Str)) = false := by decide) :
    PE X (.Call (.Name x p) [] [] pos) (tCallS sp E tNil) := by
  constructor
  intro pins s σ H Q I h
  exact wpAny_Call_Name_kw (ld_glob I hg hm (PySem.W.callWith_K0 I.kIn F.kp (g_run (us := []) F hr (hx σ) I .nil h)) hdb)
/-- o.m(..) of an instance of the class at C -/
def tMethS (C : Addr) (m : Str) (sp : Sp) (E : L2.St → XK) (ta : TE) (t : TA) : TE := fun σ H Q => ta σ H fun x H1 => ∃ a dx fs, x = .ref a ∧ H1 a = some (.ins C dx fs) ∧ fs.lookup m = none ∧
  t σ H1 fun vs H2 => sp (x :: vs) H2 Q (E σ)
theorem gm {pl : Sem Bool} (F : GFn X.prog X.w X.K X.mg X.base k f ps sp) (hr : GRoom k X.A) (c : Cls X.K C) (hm : Meth X.K C m f) (hx : ∀ σ, PassesAt (L2.CX X.prog X.w) X σ (E σ)) (he : PE X o ta) (ha : PA X (e :: es) t)
    (hst : starEach (e :: es) X.env = (false, eval e X.env) :: starEach es X.env := by rfl) (hpl : (backTo pos (starEach es X.env)).any (·.1) = false := by rfl)
    (ht : eval (.Call (.Attribute o m apos) (e :: es) [] pos) X.env = (do
      let ov ← eval o X.env
      standAt apos.atName
      let (g, first) ← holding [ov] (getMethod ov m pl)
      callWith pos g first (backTo pos (starEach (e :: es) X.env)) (backToKw pos (keywordEach [] X.env))) := by rfl) :
    PE X (.Call (.Attribute o m apos) (e :: es) [] pos) (tMethS C m sp E ta t) := by
  constructor
  intro pins s σ H Q I h
  refine PySem.W.methodCall_KW (pl := pl) (thn (he.run pins s σ H _ I h) fun u s1 h1 => ?_) ht
  obtain ⟨x, H1, I1, rx, a, dx, fs, ex, ea, l, q⟩ := h1
  subst ex
  have eu : u = Value.ref a := rx
  subst eu
  refine getmeth_ok I1 ea c hm l
    (PySem.W.callWith_K (first := [.ref a]) (h₀ := X.base) I.ok.mod.kin hm.kp (thn (ha.run pos pins s1 σ H1 _ I1 q) fun us s2 h2 => ?_) hst hpl)
  obtain ⟨vs, H2, I2, r, q2⟩ := h2
  exact ⟨I2.kIn, g_run (us := .ref a :: us) (vs := .ref a :: vs) F hr (hx σ) I2 (.cons rfl r) q2⟩
/-- o.m() -/
theorem gm0 {pl : Sem Bool} (F : GFn X.prog X.w X.K X.mg X.base k f ps sp) (hr : GRoom k X.A) (c : Cls X.K C) (hm : Meth X.K C m f) (hx : ∀ σ, PassesAt (L2.CX X.prog X.w) X σ (E σ)) (he : PE X o ta)
    (ht : eval (.Call (.Attribute o m apos) [] [] pos) X.env = (do
      let ov ← eval o X.env
      standAt apos.atName
      let (g, first) ← holding [ov] (getMethod ov m pl)
      callWith pos g first (backTo pos (starEach [] X.env)) (backToKw pos (keywordEach [] X.env))) := by rfl) :
    PE X (.Call (.Attribute o m apos) [] [] pos) (tMethS C m sp E ta tNil) := by
  constructor
  intro pins s σ H Q I h
  refine PySem.W.methodCall_KW (pl := pl) (thn (he.run pins s σ H _ I h) fun u s1 h1 => ?_) ht
  obtain ⟨x, H1, I1, rx, a, dx, fs, ex, ea, l, q⟩ := h1
  subst ex
  have eu : u = Value.ref a := rx
  subst eu
  exact getmeth_ok I1 ea c hm l (PySem.W.callWith_K0 (first := [.ref a]) I1.kIn hm.kp (g_run (us := [.ref a]) (vs := [.ref a]) F hr (hx σ) I1 (.cons rfl .nil) q))

/-- C(..): a new instance, then __init__ -/
def tMakeS (C : Addr) (sp : Sp) (E : L2.St → XK) (t : TA) : TE := fun σ H Q => t σ H fun vs H1 => ∀ x dx, H1 x = none → H1 dx = none → dx ≠ x →
  sp (.ref x :: vs) (upd (upd H1 dx (.own x)) x (.ins C dx [])) (fun v H2 => v = .non ∧ Q (.ref x) H2) (E σ)
/-- what may leave __init__ is seen from the heap with the new instance in it -/
def PassesMk (X : Cx) (E : L2.St → XK) : Prop := ∀ (σ : L2.St), PassesAt (L2.CX X.prog X.w) X σ (E σ)
theorem g_make {pins : List (Addr × Obj)} {σ : L2.St} {H : Hp} {s : Shared} {Q : VK} {us : List Value} {vs : List V} (M : Mk X.K C f) (F : GFn X.prog X.w X.K X.mg X.base k f ps sp) (hr : GRoom (k + 1) X.A) (hx : ∀ σ, PassesAt (L2.CX X.prog X.w) X σ (E σ))
    (I : Inv X pins σ H s) (r : Vals vs us)
    (h : ∀ x dx, H x = none → H dx = none → dx ≠ x → sp (.ref x :: vs) (upd (upd H dx (.own x)) x (.ins C dx [])) (fun v H2 => v = .non ∧ Q (.ref x) H2) (E σ)) :
    wpAny (model X.prog X.w) X.A (call (.ref C) us) (EP X pins σ Q) X.xe s := by
  have n0 : H s.heap.objs.size = none := I.hok.fresh (Nat.le_refl _)
  have n1 : H (s.heap.objs.size + 1) = none := I.hok.fresh (Nat.le_succ _)
  have hq := h _ _ n1 n0 (Nat.ne_of_lt (Nat.lt_succ_self _))
  have I2 := Inv.made (C := C) I
  have r2 : Vals (V.ref (s.heap.objs.size + 1) :: vs) (Value.ref (s.heap.objs.size + 1) :: us) := Paired.cons rfl r
  refine wpAny_call (make_map (f := f) I.kIn M.makes M.init (beq_iff_eq.mp M.fn)
    (codeAny_mono (F.run _ X.stack _ _ (Value.ref (s.heap.objs.size + 1) :: us) _ _ (E σ) (hr.make C us []) (I2.env0.make C us []) r2 hq) (fun r s' h2 => ?_)))
  match r, h2 with
  | .error e, h2 => exact hx σ pins _ _ e s' I2 h2
  | .ok (.ret u), h2 =>
    obtain ⟨v, H', I3, rv, ev, q3⟩ := I2.after h2
    subst ev
    exact ⟨rv, ⟨V.ref (s.heap.objs.size + 1), H', I3, rfl, q3⟩⟩
theorem gk (M : Mk X.K C f) (F : GFn X.prog X.w X.K X.mg X.base k f ps sp) (hr : GRoom (k + 1) X.A) (hm : X.mg x = some (.ref C)) (hx : ∀ σ, PassesAt (L2.CX X.prog X.w) X σ (E σ)) (ha : PA X (e :: es) t) (hg : Gl X x := by rfl)
    (hdb : (x == ("__debug__" : Str)) = false := by decide) (he : starEach (e :: es) X.env = (false, eval e X.env) :: starEach es X.env := by rfl) (hpl : (backTo pos (starEach es X.env)).any (·.1) = false := by rfl) :
    PE X (.Call (.Name x p) (e :: es) [] pos) (tMakeS C sp E t) := by
  constructor
  intro pins s σ H Q I h
  refine wpAny_Call_Name_kw (ld_glob I hg hm
    (PySem.W.callWith_K (h₀ := X.base) I.ok.mod.kin M.kp (thn (ha.run pos pins s σ H _ I h) fun us s1 h1 => ?_) he hpl) hdb)
  obtain ⟨vs, H1, I1, r, q⟩ := h1
  exact ⟨I1.kIn, g_make M F hr hx I1 r q⟩
theorem gk0 (M : Mk X.K C f) (F : GFn X.prog X.w X.K X.mg X.base k f ps sp) (hr : GRoom (k + 1) X.A) (hm : X.mg x = some (.ref C)) (hx : ∀ σ, PassesAt (L2.CX X.prog X.w) X σ (E σ)) (hg : Gl X x := by rfl)
    (hdb : (x == ("__debug__" : Str)) = false := by decide) : PE X (.Call (.Name x p) [] [] pos) (tMakeS C sp E tNil) := by
  constructor
  intro pins s σ H Q I h
  exact wpAny_Call_Name_kw (ld_glob I hg hm (PySem.W.callWith_K0 I.kIn M.kp (g_make (us := []) M F hr hx I .nil h)) hdb)
end
end Ts
namespace Ts
open PySem PySem.Spec PyProof.Rows L2
/-! ### the law's end -/
section
variable {P : Program} {w : World} {K : PySem.W.Frag} {mg mb : Str → Option Value} {k : Nat} {fa a : Addr} {sp : Sp} {s1 : Shared} {vs : List Value} {ns : List Int}
/-- what is wanted of the law's call -/
abbrev Told (s1 : Shared) : Result → Shared → Prop := fun r s' => r = .ok (.ret (.bool true)) ∧ OldK s1.heap s'.heap ∧ s'.os = s1.os ∧ AllBare s'.gens
/-- from an abstract heap that tracks the script alone, or nothing -/
theorem end_core {x : Str} {H : Hp} (KX : K.In s1.heap) (hns : s1.heap.Ns mainGlobals mg) (hb : s1.heap.Ns builtinsNs mb) (hbb : ∀ y : Str, y ≠ "__name__" → mb y = bootBuiltins y) (hlim : s1.heap.NoLimit) (hg : s1.gens = #[])
    (ha : s1.heap.get? a = some { cls := .type "list", data := .seq vs.toArray }) (hr : GRoom k callerA)
    (F : ∀ base : Heap, K.In base → base.Ns mainGlobals mg → GFn P w K mg base k fa [x] sp)
    (hsp : sp [.ref a] H (fun v _ => v = .bl true) fun _ _ _ => False) (hok : HOk P w H s1.heap) (hA : ∀ b, H b ≠ none → b = a ∧ K.lookup a = none) (hO : Only H) :
    codeAny (model P w) callerA (.call (.ref fa) ⟨[.ref a], []⟩) (Told s1) s1 := by
  have keepB : ∀ {b : Addr} {o : Obj}, s1.heap.get? b = some o → H b = none → (hidT s1.heap H).get? b = some o := fun e n => hidT_get e n
  have noD : ∀ {b : Addr} {o : Obj} {es : Array DictEntry} {ep : Nat}, s1.heap.get? b = some o → o.data = .dict es ep → H b = none := by
    intro b o es ep e d
    apply Classical.byContradiction
    intro n
    have eb := (hA b n).1
    rw [eb, ha] at e
    cases e
    exact absurd d (by intro z; cases z)
  have nsB : ∀ {b : Addr} {m : Str → Option Value}, s1.heap.Ns b m → (hidT s1.heap H).Ns b m := by
    rintro b m ⟨o, es, ep, e, d, r⟩
    exact ⟨o, es, ep, keepB e (noD e d), d, r⟩
  have kB : K.In (hidT s1.heap H) := by
    intro b o e
    refine keepB (KX b o e) (Classical.byContradiction fun n => ?_)
    obtain ⟨eb, el⟩ := hA b n
    rw [eb, el] at e
    cases e
  have limB : (hidT s1.heap H).NoLimit := by
    obtain ⟨mc, h1, h2⟩ := hlim
    exact ⟨mc, nsB h1, h2⟩
  have md : Mod K mg (hidT s1.heap H) := ⟨kB, nsB hns, ⟨mb, nsB hb, hbb⟩, limB⟩
  have nomem : ∀ (b : Addr), b ∉ frs ([] : List Env) := fun b z => by cases z
  have e0 : Env0 P w K mg (hidT s1.heap H) callerA [] s1 H :=
    { frames := rfl, mod := md, bs := fun b o e => of_hidT e, bsz := Nat.le_of_eq (hidT_size _ _), funs := trivial, frf := fun b z => absurd z (nomem b), hok := hok, bare := .of_eq hg }
  refine codeAny_mono ((F _ kB (nsB hns)).run callerA [] s1 H [.ref a] [.ref a] _ _ hr e0 (Paired.cons rfl Paired.nil) hsp) (fun r s' h => ?_)
  match r, h with
  | .error e, h =>
    obtain ⟨_, _, _, _, _, _, _, _, _, _, _, _, z⟩ := h
    exact z.elim
  | .ok (.ret u), h =>
    obtain ⟨v, H', os, bare, un, hok', r', q⟩ := h
    have ev : v = .bl true := q
    subst ev
    have eu : u = Value.bool true := r'
    subst eu
    refine ⟨rfl, OldK.of_keep (fun b o e => ?_), os, bare⟩
    rcases hO b with z | ⟨ob, xs, z⟩
    · exact un.keep b o e z (nomem b) (by simp)
    · have q1 := (hok b _ z).1
      have q2 := (hok' b _ (un.frzs b ob _ z)).1
      rw [q2, ← q1, e]
theorem law_end {x : Str} (KX : K.In s1.heap) (hns : s1.heap.Ns mainGlobals mg) (hb : s1.heap.Ns builtinsNs mb) (hbb : ∀ y : Str, y ≠ "__name__" → mb y = bootBuiltins y) (hlim : s1.heap.NoLimit) (hg : s1.gens = #[])
    (ha : s1.heap.get? a = some { cls := .type "list", data := .seq vs.toArray }) (hi : IntsAre vs ns) (hl : ns.length ≤ sizeLine) (hr : GRoom k callerA)
    (F : ∀ base : Heap, K.In base → base.Ns mainGlobals mg → GFn P w K mg base k fa [x] sp)
    (hsp : ∀ H : Hp, SqL K H a (ns.map V.int) → sp [.ref a] H (fun v _ => v = .bl true) fun _ _ _ => False) :
    codeAny (model P w) callerA (.call (.ref fa) ⟨[.ref a], []⟩) (Told s1) s1 := by
  have rv := vals_ints hi
  have lv := hi.length
  cases hk : K.lookup a with
  | some o =>
    have e := KX a o hk
    rw [ha] at e
    cases e
    refine end_core (H := fun _ => none) KX hns hb hbb hlim hg ha hr F (hsp _ ?_) (fun b u z => by cases z) (fun b z => absurd rfl z) (fun _ => .inl rfl)
    exact .inr ⟨_, vs.toArray, _, hk, rfl, rfl, rfl, by rw [List.size_toArray, lv]; exact hl, by simpa using rv⟩
  | none =>
    let ob : Obj := { cls := .type "list", data := .seq vs.toArray }
    let H : Hp := fun b => if b = a then some (.frz ob (.lst (ns.map V.int))) else none
    have hHa : H a = some (.frz ob (.lst (ns.map V.int))) := if_pos rfl
    refine end_core (H := H) KX hns hb hbb hlim hg ha hr F (hsp _ (.inl (.inr ⟨ob, hHa⟩))) (fun b u z => ?_) (fun b z => ⟨Classical.byContradiction fun n => z (if_neg n), hk⟩) (fun b => ?_)
    · by_cases eb : b = a
      · subst eb
        rw [hHa] at z
        cases z
        exact ⟨ha, by rw [List.length_map]; exact hl, vs, _, rv, ha⟩
      · have z2 : H b = none := if_neg eb
        rw [z2] at z
        cases z
    · by_cases eb : b = a
      · exact .inr ⟨ob, _, by rw [eb]; exact hHa⟩
      · exact .inl (if_neg eb)
end
theorem groom_caller {k : Nat} (h : Room k callerA) : GRoom k callerA := ⟨h, rfl⟩
/-- the law over a head by facts -/
theorem walkG {l : PySem.W.OpenLaw} {n k : Nat} {q : Program} {loose : List Str} {XP : (Str → Option Value) → Heap → Prop} {YP : World → Heap → Prop} {d : DefRec} {x : Str}
    (hn : l.most = some n) (hn2 : n ≤ sizeLine) (hdf : d.params.defaults = []) (hr : Room k callerA)
    (F : ∀ (w : World) (mg : Str → Option Value) (fa : Addr) (h : Heap), YP w h → h.Ns mainGlobals mg → mg d.name = some (.ref fa) →
      ∃ (K : PySem.W.Frag) (sp : Sp), K.In h ∧ (∀ (H : Hp) (a : Addr) (ns : List Int), ns.length ≤ n → SqL K H a (ns.map V.int) → sp [.ref a] H (fun v _ => v = .bl true) fun _ _ _ => False) ∧
        ∀ base : Heap, K.In base → base.Ns mainGlobals mg → GFn l.prog w K mg base k fa [x] sp) :
    PySem.W.WalkO q loose XP YP l.row.toRowW d [] (fun f vs => PySem.call f vs) := by
  refine Att.attach_call hn hdf fun w s0 s1 mg mb fa o pm cd doc a vs ns G Y ho hd hcd hmg hobj hints hlen hg => ?_
  obtain ⟨K, sp, KX, hsp, hF⟩ := F w mg fa _ Y G.T.g hmg
  exact law_end KX G.T.g G.T.b G.T.builtins G.T.nolimit hg hobj hints (Nat.le_trans hlen hn2) (groom_caller hr) hF fun H hS => hsp H a ns hlen hS
/-- what the walk asks of the text as the top has left it -/
structure Tx (fa : List He.Fa) (fn : List He.DefD) (K : PySem.W.Frag) (mg : Str → Option Value) : Prop where
  says : He.SaysD fa fn K
  glo : ∀ x, (He.Fa.glo x).ok K = true → mg x = some (.ref (He.ga K x))
  free : ∀ x, (He.Fa.free x).ok K = true → mg x = none
  int : ∀ x i, (He.Fa.int x i).ok K = true → ∃ t, mg x = some (.int i t)
  str : ∀ x z, (He.Fa.str x z).ok K = true → ∃ t, mg x = some (.str z t)
theorem tx_of {fa : List He.Fa} {fn : List He.DefD} {K : PySem.W.Frag} {h : Heap} {mg : Str → Option Value} (X : K.In h) (G : h.Ns mainGlobals mg) (c : He.SaysD fa fn K) : Tx fa fn K mg :=
  ⟨c, fun _ e => He.glo_ok X G e, fun _ e => He.free_ok X G e, fun _ _ e => He.int_ok X G e, fun _ _ e => He.str_ok X G e⟩
section
variable {fa : List He.Fa} {fn : List He.DefD} {K : PySem.W.Frag} {mg : Str → Option Value}
theorem Tx.g (T : Tx fa fn K mg) (i : Nat) {x : Str} (h : fa[i]? = some (.glo x) := by rfl) : mg x = some (.ref (He.ga K x)) := T.glo _ (T.says.fact i h)
theorem Tx.b (T : Tx fa fn K mg) (i : Nat) {x : Str} (h : fa[i]? = some (.free x) := by rfl) : mg x = none := T.free _ (T.says.fact i h)
theorem Tx.i (T : Tx fa fn K mg) (i : Nat) {x : Str} {n : Int} (h : fa[i]? = some (.int x n) := by rfl) : ∃ t, mg x = some (.int n t) := T.int _ _ (T.says.fact i h)
theorem Tx.s (T : Tx fa fn K mg) (i : Nat) {x z : Str} (h : fa[i]? = some (.str x z) := by rfl) : ∃ t, mg x = some (.str z t) := T.str _ _ (T.says.fact i h)
theorem Tx.cls (T : Tx fa fn K mg) (i : Nat) {x : Str} (h : fa[i]? = some (.cls x) := by rfl) : Cls K (He.ga K x) := He.cls_ok (T.says.fact i h)
theorem Tx.noat (T : Tx fa fn K mg) (i : Nat) {x f : Str} (h : fa[i]? = some (.noat x f) := by rfl) : NoAttr K (He.ga K x) f := He.noat_ok (T.says.fact i h)
theorem Tx.meth (T : Tx fa fn K mg) (i : Nat) {x m : Str} (h : fa[i]? = some (.meth x m) := by rfl) : Meth K (He.ga K x) m (He.ma K (He.ga K x) m) := He.meth_ok (T.says.fact i h)
theorem Tx.mkr (T : Tx fa fn K mg) (i : Nat) {x : Str} (h : fa[i]? = some (.mkr x) := by rfl) : Mk K (He.ga K x) (He.ma K (He.ga K x) "__init__") := He.mkr_ok (T.says.fact i h)
end
/-- a module's int -/
theorem pgi {X : Cx} {x : Str} {n : Int} {pos : Pos} (h : ∃ t, X.mg x = some (.int n t)) (hg : Gl X x := by rfl) (hd : (x == ("__debug__" : Str)) = false := by decide) : PE X (.Name x pos) (tC (.int n)) := by
  obtain ⟨t, e⟩ := h
  exact pe_glob hg e ⟨t, rfl⟩ hd
theorem pgs {X : Cx} {x z : Str} {pos : Pos} (h : ∃ t, X.mg x = some (.str z t)) (hg : Gl X x := by rfl) (hd : (x == ("__debug__" : Str)) = false := by decide) : PE X (.Name x pos) (tC (.str z)) := by
  obtain ⟨t, e⟩ := h
  exact pe_glob hg e ⟨t, rfl⟩ hd
end Ts
/-! TsRules: rules of values that the layer lacks: isinstance and repr of data, least and greatest of tuples, enumerate of a tuple, slices of whole tuples, (x,) * n, set(tuple). -/
namespace Ts
open PySem PySem.Spec PyProof.Rows L2

/-! ### least and greatest -/
def lmin : List Int → Int
  | [] => 0
  | [x] => x
  | x :: y :: r => if x ≤ lmin (y :: r) then x else lmin (y :: r)
def lmax : List Int → Int
  | [] => 0
  | [x] => x
  | x :: y :: r => if lmax (y :: r) ≤ x then x else lmax (y :: r)
theorem lmin_mem : ∀ {xs : List Int}, xs ≠ [] → lmin xs ∈ xs
  | [], h => absurd rfl h
  | [x], _ => List.mem_singleton.mpr rfl
  | x :: y :: r, _ => by
    have ih := lmin_mem (xs := y :: r) (by simp)
    unfold lmin
    split
    · exact List.mem_cons_self
    · exact List.mem_cons_of_mem _ ih
theorem lmin_le : ∀ {xs : List Int} {a : Int}, a ∈ xs → lmin xs ≤ a
  | [], _, h => by cases h
  | [x], a, h => by
    rw [List.mem_singleton.mp h]
    exact Int.le_refl _
  | x :: y :: r, a, h => by
    unfold lmin
    rcases List.mem_cons.mp h with e | e
    · subst e
      split <;> omega
    · have := lmin_le (xs := y :: r) e
      split <;> omega
theorem lmin_unique {xs : List Int} {m : Int} (h1 : m ∈ xs) (h2 : ∀ a, a ∈ xs → m ≤ a) : m = lmin xs := by
  have hne : xs ≠ [] := fun e => by
    rw [e] at h1
    cases h1
  have a1 := h2 _ (lmin_mem hne)
  have a2 := lmin_le h1
  omega
theorem lmax_mem : ∀ {xs : List Int}, xs ≠ [] → lmax xs ∈ xs
  | [], h => absurd rfl h
  | [x], _ => List.mem_singleton.mpr rfl
  | x :: y :: r, _ => by
    have ih := lmax_mem (xs := y :: r) (by simp)
    unfold lmax
    split
    · exact List.mem_cons_self
    · exact List.mem_cons_of_mem _ ih
theorem le_lmax : ∀ {xs : List Int} {a : Int}, a ∈ xs → a ≤ lmax xs
  | [], _, h => by cases h
  | [x], a, h => by
    rw [List.mem_singleton.mp h]
    exact Int.le_refl _
  | x :: y :: r, a, h => by
    unfold lmax
    rcases List.mem_cons.mp h with e | e
    · subst e
      split <;> omega
    · have := le_lmax (xs := y :: r) e
      split <;> omega
theorem lmax_unique {xs : List Int} {m : Int} (h1 : m ∈ xs) (h2 : ∀ a, a ∈ xs → a ≤ m) : m = lmax xs := by
  have hne : xs ≠ [] := fun e => by
    rw [e] at h1
    cases h1
  have a1 := h2 _ (lmax_mem hne)
  have a2 := le_lmax h1
  omega

section
variable {prog : Program} {w : World} {A : Around} {E : Value → Shared → Prop} {s : Shared} {l : Addr} {its : List Value} {ns : List Int} {Q : Value → Shared → Prop}
/-- iter(t): its one new cell -/
theorem iter_tupN {items : Array Value} {R : Value → Shared → Prop} (ht : s.heap.IsTuple l items)
    (h : (s.heap.push { cls := .type "tuple_iterator", data := .fields #[.ref l, .int 0 0] }).IsTupleIter s.heap.objs.size l 0 → (s.heap.push { cls := .type "tuple_iterator", data := .fields #[.ref l, .int 0 0] }).IsTuple l items →
      (∀ b ∈ [s.heap.objs.size, l], b < (s.heap.push { cls := .type "tuple_iterator", data := .fields #[.ref l, .int 0 0] }).objs.size) → l ≠ s.heap.objs.size →
      R (.ref s.heap.objs.size) { s with heap := s.heap.push { cls := .type "tuple_iterator", data := .fields #[.ref l, .int 0 0] } }) : wpAny (model prog w) A (pyIter (.ref l)) R E s := by
  have hlt : l < s.heap.objs.size := by
    obtain ⟨_, e, _⟩ := ht
    exact Heap.lt_size e
  refine wpAny_pyIter_tuple ht (h ⟨_, Heap.get?_push_size _ rfl, rfl, rfl⟩ (ht.push _) (fun b hb => ?_) (Nat.ne_of_lt hlt))
  have hz : (s.heap.push { cls := .type "tuple_iterator", data := .fields #[.ref l, .int 0 0] }).objs.size = s.heap.objs.size + 1 := Heap.size_push ..
  rw [hz]
  have e : b = s.heap.objs.size ∨ b = l := by simpa using hb
  rcases e with e | e
  · rw [e]
    exact Nat.lt_succ_self _
  · rw [e]
    exact Nat.lt_succ_of_lt hlt
theorem keptB {h' : Heap} {o : Obj} (hk : ∀ b u, b ∉ [s.heap.objs.size] → (s.heap.push o).get? b = some u → h'.get? b = some u) : ∀ b u, s.heap.get? b = some u → h'.get? b = some u := by
  intro b u e
  refine hk b u (fun hm => ?_) (Heap.get?_push_of_some _ e)
  rw [List.mem_singleton] at hm
  rw [hm] at e
  exact Nat.lt_irrefl _ (Heap.lt_size e)
theorem min_tup (hh : A.handled = none) (ht : s.heap.IsTuple l its.toArray) (hi : IntsAre its ns) (hne : ns ≠ [])
    (h : ∀ h' tk t', (∀ b o, s.heap.get? b = some o → h'.get? b = some o) → Q (.int (lmin ns) t') { s with heap := h', toks := tk }) : wpAny (model prog w) A (call (.builtin "min") [.ref l]) Q E s := by
  obtain ⟨xs, e⟩ := hi.allInts.items
  have hn : numsOf (intItems xs).toList = ns := by rw [← e]; exact hi.numsOf
  rw [nums_intItems] at hn
  subst hn
  rw [e] at ht
  have hsz : 0 < xs.size := by
    apply Nat.pos_of_ne_zero
    intro z
    apply hne
    apply List.eq_nil_of_length_eq_zero
    simpa using z
  refine call_min_walk (iter_tupN ht fun h1 h2 h3 h4 => ?_)
  refine ⟨_, _, _, _, _, _, _, rfl, Walks.tuple (A := A.in1) hh _ l h4 (intItems xs), ⟨h1, h2⟩, h3, by simpa [intItems] using hsz, CmpOf.ints_lt (numAt xs) (fun _ _ => intItems_at), fun v h' tk hP hk => ?_⟩
  have hP' : (intItems xs)[argBest (fun i j => decide (numAt xs i < numAt xs j)) (xs.size - 1)]? = some v := by simpa [intItems] using hP
  obtain ⟨t, rfl⟩ := intItems_at hP'
  obtain ⟨b1, b2⟩ := argBest_lt (numAt xs) (xs.size - 1)
  have em : numAt xs (argBest (fun i j => decide (numAt xs i < numAt xs j)) (xs.size - 1)) = lmin (xs.toList.map (·.1)) := by
    refine lmin_unique ?_ fun a ha => ?_
    · rw [numAt_eq]
      exact PySem.getD_mem (by rw [List.length_map, Array.length_toList]; omega)
    · obtain ⟨j, hj, rfl⟩ := mem_getD ha
      rw [List.length_map, Array.length_toList] at hj
      rw [← numAt_eq xs j]
      exact b2 j (by omega)
  rw [em]
  exact h h' tk t (keptB hk)
theorem max_tup (hh : A.handled = none) (ht : s.heap.IsTuple l its.toArray) (hi : IntsAre its ns) (hne : ns ≠ [])
    (h : ∀ h' tk t', (∀ b o, s.heap.get? b = some o → h'.get? b = some o) → Q (.int (lmax ns) t') { s with heap := h', toks := tk }) : wpAny (model prog w) A (call (.builtin "max") [.ref l]) Q E s := by
  obtain ⟨xs, e⟩ := hi.allInts.items
  have hn : numsOf (intItems xs).toList = ns := by rw [← e]; exact hi.numsOf
  rw [nums_intItems] at hn
  subst hn
  rw [e] at ht
  have hsz : 0 < xs.size := by
    apply Nat.pos_of_ne_zero
    intro z
    apply hne
    apply List.eq_nil_of_length_eq_zero
    simpa using z
  refine call_max_walk (iter_tupN ht fun h1 h2 h3 h4 => ?_)
  refine ⟨_, _, _, _, _, _, _, rfl, Walks.tuple (A := A.in1) hh _ l h4 (intItems xs), ⟨h1, h2⟩, h3, by simpa [intItems] using hsz, CmpOf.ints_gt (numAt xs) (fun _ _ => intItems_at), fun v h' tk hP hk => ?_⟩
  have hP' : (intItems xs)[argBest (fun i j => decide (numAt xs i > numAt xs j)) (xs.size - 1)]? = some v := by simpa [intItems] using hP
  obtain ⟨t, rfl⟩ := intItems_at hP'
  obtain ⟨b1, b2⟩ := argBest_gt (numAt xs) (xs.size - 1)
  have em : numAt xs (argBest (fun i j => decide (numAt xs i > numAt xs j)) (xs.size - 1)) = lmax (xs.toList.map (·.1)) := by
    refine lmax_unique ?_ fun a ha => ?_
    · rw [numAt_eq]
      exact PySem.getD_mem (by rw [List.length_map, Array.length_toList]; omega)
    · obtain ⟨j, hj, rfl⟩ := mem_getD ha
      rw [List.length_map, Array.length_toList] at hj
      rw [← numAt_eq xs j]
      exact b2 j (by omega)
  rw [em]
  exact h h' tk t (keptB hk)
end
section
variable {X : Cx}
/-- min, max of a list or a tuple of ints -/
def rMinA (K : PySem.W.Frag) : List V → Hp → VK → Prop := fun vs H Q => ∃ (a : Addr) (ns : List Int), vs = [V.ref a] ∧ (SqL K H a (ns.map V.int) ∨ SqT K H a (ns.map V.int)) ∧ ns ≠ [] ∧ Q (.int (lmin ns)) H
def rMaxA (K : PySem.W.Frag) : List V → Hp → VK → Prop := fun vs H Q => ∃ (a : Addr) (ns : List Int), vs = [V.ref a] ∧ (SqL K H a (ns.map V.int) ∨ SqT K H a (ns.map V.int)) ∧ ns ≠ [] ∧ Q (.int (lmax ns)) H
theorem pos_of_ne {α : Type} {xs : List α} (h : xs ≠ []) : 0 < xs.length := List.length_pos_iff.mpr h
theorem cr_minA (hc : X.calm = true) : CallR X (.builtin "min") (rMinA X.K) := by
  intro pins s σ H vs us Q I r h
  obtain ⟨a, ns, rfl, hs, hne, q⟩ := h
  rw [Vals.ref1 r]
  rcases hs with hs | hs
  · obtain ⟨its, rv, hl, _⟩ := I.list hs
    exact min_raw (I.ok.hd hc) hl.isList rv.ints (pos_of_ne hne) fun h' tk m t' hk h1 h2 => ⟨.int m, H, I.kept hk, ⟨_, rfl⟩, by rw [lmin_unique h1 h2]; exact q⟩
  · obtain ⟨its, rv, ht, _⟩ := I.tuple hs
    exact min_tup (I.ok.hd hc) (show s.heap.IsTuple a its.toArray from ht) rv.ints hne fun h' tk t' hk => ⟨.int _, H, I.kept hk, ⟨_, rfl⟩, q⟩
theorem cr_maxA (hc : X.calm = true) : CallR X (.builtin "max") (rMaxA X.K) := by
  intro pins s σ H vs us Q I r h
  obtain ⟨a, ns, rfl, hs, hne, q⟩ := h
  rw [Vals.ref1 r]
  rcases hs with hs | hs
  · obtain ⟨its, rv, hl, _⟩ := I.list hs
    exact max_raw (I.ok.hd hc) hl.isList rv.ints (pos_of_ne hne) fun h' tk m t' hk h1 h2 => ⟨.int m, H, I.kept hk, ⟨_, rfl⟩, by rw [lmax_unique h1 h2]; exact q⟩
  · obtain ⟨its, rv, ht, _⟩ := I.tuple hs
    exact max_tup (I.ok.hd hc) (show s.heap.IsTuple a its.toArray from ht) rv.ints hne fun h' tk t' hk => ⟨.int _, H, I.kept hk, ⟨_, rfl⟩, q⟩

/-! ### repr of data -/
def rRepD (K : PySem.W.Frag) : List V → Hp → VK → Prop := fun vs H Q => ∃ (x : V) (d : PyData), vs = [x] ∧ Dp K H x d ∧ d.showable = true ∧ d.shown.length ≤ sizeLine ∧ d.depth ≤ 50 ∧ Q (.str d.shown) H
theorem dp_nodict {K : PySem.W.Frag} {H : Hp} : ∀ (d : PyData) (v : V), Dp K H v d → d.hasDict = false := by
  intro d
  refine PyData.rec (motive_1 := fun d => ∀ v : V, Dp K H v d → d.hasDict = false) (motive_2 := fun ds => ∀ vs : List V, DpAll K H vs ds → PyData.hasDictAll ds = false) (motive_3 := fun _ => True) (motive_4 := fun _ => True)
    ?_ ?_ ?_ ?_ ?_ ?_ ?_ ?_ ?_ ?_ ?_ ?_ d
  · intro v _; rfl
  · intro b v _; rfl
  · intro i v _; rfl
  · intro x v _; rfl
  · intro xs ih v h
    cases h with
    | lst _ ha => exact ih _ ha
  · intro xs ih v h
    cases h with
    | tup _ ha => exact ih _ ha
  · intro kvs _ v h
    cases h
  · intro vs _; rfl
  · intro d ds h1 h2 vs h
    cases h with
    | cons a b =>
      show (d.hasDict || PyData.hasDictAll ds) = false
      rw [h1 _ a, h2 _ b] <;> rfl
  · trivial
  · intros; trivial
  · intros; trivial
theorem call_reprD (hg : X.A.guards = some []) (hu : X.A.units + 64 < cLine) : CallR X (.builtin "repr") (rRepD X.K) := by
  intro pins s σ H xs us Q I r h
  obtain ⟨x, d, rfl, hd, hs, hz, hdep, q⟩ := h
  have nd := dp_nodict d x hd
  obtain ⟨u, rfl, ru⟩ := vals1 r
  obtain ⟨as, rd⟩ := Dp.reads I d x u hd ru
  have fin : ∀ (h' : Heap) (t : Tok) (tk : Nat), (∀ b o, s.heap.get? b = some o → h'.get? b = some o) → EP X pins σ Q (.str d.shown t) { s with heap := h', toks := tk } :=
    fun h' t tk hk => ⟨.str d.shown, H, I.kept hk, ⟨_, rfl⟩, q⟩
  cases rd with
  | none => exact PySem.P.repr_of_none (fin s.heap _ _ fun _ _ e => e)
  | bool b => exact PySem.P.repr_of_bool (by
      have := fin s.heap s.toks (s.toks + 1) fun _ _ e => e
      cases b <;> exact this)
  | int i t => exact PySem.P.repr_of_int (by simpa [PyData.showable] using hs) (fin s.heap _ _ fun _ _ e => e)
  | str z t => exact PySem.P.repr_of_str (fin s.heap _ _ fun _ _ e => e) hz
  | list h1 h2 h3 h4 => exact repr_of_reads' (Reads.list h1 h2 h3 h4) hs (PyData.noDict_hsm nd) hg (by omega) (fun _ _ e => e) (fun h' t tk hk => fin h' t tk hk) hz
  | tuple h1 h2 h3 h4 => exact repr_of_reads' (Reads.tuple h1 h2 h3 h4) hs (PyData.noDict_hsm nd) hg (by omega) (fun _ _ e => e) (fun h' t tk hk => fin h' t tk hk) hz
  | dict _ _ _ _ _ => cases nd
end
end Ts
namespace Ts
open PySem PySem.Spec PyProof.Rows L2
/-! ### isinstance of data, one built-in class -/
def kindD : PyData → String
  | .none => "NoneType"
  | .bool _ => "bool"
  | .int _ => "int"
  | .str _ => "str"
  | .list _ => "list"
  | .tuple _ => "tuple"
  | .dict _ => "dict"
def isaK (T k : String) : Bool := k == T || (T == "int" && k == "bool")
def isaD (T : String) (d : PyData) : Bool := isaK T (kindD d)
def kinds7 : List String := ["NoneType", "bool", "int", "str", "list", "tuple", "dict"]
theorem kindD_mem (d : PyData) : kindD d ∈ kinds7 := by cases d <;> simp [kindD, kinds7]
theorem dp_ty {K : PySem.W.Frag} {H : Hp} {x : V} {d : PyData} (h : Dp K H x d) : TyX K H x (.type (kindD d)) := by
  cases h with
  | non => exact .base .non
  | bl b => exact .base (.bl b)
  | int i => exact .base (.int i)
  | str z => exact .base (.str z)
  | lst hs _ =>
    rcases hs with (h | ⟨o, h⟩) | ⟨o, its, n, hk, hc, _⟩
    · exact .base (.lst h)
    · exact .base (.frz h)
    · exact .kList hk hc
  | tup hs _ =>
    rcases hs with (h | ⟨o, h⟩) | ⟨o, its, n, hk, hc, _⟩
    · exact .base (.tup h)
    · exact .fTuple h
    · exact .kTuple hk hc
def rIsaD (K : PySem.W.Frag) (T : String) : List V → Hp → VK → Prop := fun xs H Q => ∃ (x : V) (d : PyData), xs = [x, .ty T] ∧ Dp K H x d ∧ Q (.bl (isaD T d)) H
theorem isa_of {X : Cx} {T : String} (h : ∀ k ∈ kinds7, kitB k T = some (isaK T k)) : CallR X (.builtin "isinstance") (rIsaD X.K T) := by
  intro pins s σ H xs us Q I r hq
  obtain ⟨x, d, rfl, hd, q⟩ := hq
  exact call_isi pins s σ H _ us Q I r ⟨x, .ty T, _, _, _, rfl, .ty T, dp_ty hd, kit_ty (h _ (kindD_mem d)), q⟩
theorem isa_int {X : Cx} : CallR X (.builtin "isinstance") (rIsaD X.K "int") := isa_of (by decide +kernel)
theorem isa_bool {X : Cx} : CallR X (.builtin "isinstance") (rIsaD X.K "bool") := isa_of (by decide +kernel)
theorem isa_tuple {X : Cx} : CallR X (.builtin "isinstance") (rIsaD X.K "tuple") := isa_of (by decide +kernel)
theorem isa_str {X : Cx} : CallR X (.builtin "isinstance") (rIsaD X.K "str") := isa_of (by decide +kernel)
theorem isa_list {X : Cx} : CallR X (.builtin "isinstance") (rIsaD X.K "list") := isa_of (by decide +kernel)
theorem isa_dict {X : Cx} : CallR X (.builtin "isinstance") (rIsaD X.K "dict") := isa_of (by decide +kernel)
/-- isinstance(e, T) -/
def tIsa (K : PySem.W.Frag) (T : String) (te : TE) : TE := fun σ H Q => te σ H fun x H1 => ∃ d, Dp K H1 x d ∧ Q (.bl (isaD T d)) H1
theorem pe_isa {X : Cx} {T : String} {y : Str} {e : Expr} {te : TE} {p p2 pos : Pos} (hc : CallR X (.builtin "isinstance") (rIsaD X.K T)) (hm : X.mg "isinstance" = none) (hy : X.mg y = none) (hv : bootBuiltins y = some (.type T)) (he : PE X e te)
    (hg : Gl X "isinstance" := by rfl) (hgy : Gl X y := by rfl) (hn : y ≠ "__name__" := by decide) (hd : (y == ("__debug__" : Str)) = false := by decide)
    (h1 : starEach [e, .Name y p2] X.env = (false, eval e X.env) :: starEach [.Name y p2] X.env := by rfl) (h2 : starEach [.Name y p2] X.env = [(false, eval (.Name y p2) X.env)] := by rfl)
    (h3 : (backTo pos (starEach [.Name y p2] X.env)).any (·.1) = false := by rfl) :
    PE X (.Call (.Name "isinstance" p) [e, .Name y p2] [] pos) (tIsa X.K T te) := by
  have a := pe_callB (pos := pos) (p := p) hc hg hm (by decide +kernel) (pa_cons he (pa_cons (pe_bltn (v := .ty T) (pos := p2) hgy hy hv rfl hn hd) pa_nil h2) h1) (by decide) (by decide) h1 h3
  constructor
  intro pins s σ H Q I h
  refine a.run pins s σ H Q I ?_
  show te σ H fun x H1 => rIsaD X.K T (x :: [V.ty T]) H1 Q
  have mono : (te σ H fun x H1 => ∃ d, Dp X.K H1 x d ∧ Q (.bl (isaD T d)) H1) = (te σ H fun x H1 => rIsaD X.K T (x :: [V.ty T]) H1 Q) := by
    congr 1
    funext x H1
    apply propext
    constructor
    · rintro ⟨d, hd, q⟩
      exact ⟨x, d, rfl, hd, q⟩
    · rintro ⟨x', d, ex, hd, q⟩
      injection ex with e1 _
      subst e1
      exact ⟨d, hd, q⟩
  rw [← mono]
  exact h

/-! ### (x, ..) * n -/
theorem tuple_mulOne (l : Addr) (items : Array Value) (n : Nat) (dd : Option Addr) (sl : Array (Option Value)) (u : Tok) (hz : items.isEmpty = false) :
    Meets (Builtin.«tuple.__mul__» ⟨[.ref l, .int 1 u], []⟩) (fun _ R s => s.heap.get? l = some { cls := .type "tuple", dict := dd, data := .seq items n, slots := sl } ∧ R (.ok (.ret (Value.ref l))) s) :=
  .of_wp fun prog w A R s h => by
    obtain ⟨hp, g, d, tk, os⟩ := s
    obtain ⟨hl, h⟩ := h
    have f1 := AutoSeq1.idx_int
    have c0 : (decide ((1 : Int) < -(2 ^ 63)) || decide ((1 : Int) ≥ 2 ^ 63)) = false := by decide
    have c1 : (items.isEmpty || (1 : Int) == 1) = true := by rw [hz]; rfl
    wp_walk using AutoSeq1.wpAny_loadPart' hl
    repeat (first
      | (refine wpAny_ite_false (decide_eq_false (by rw [c0]; exact Bool.false_ne_true)) ?_; wp_walk using AutoSeq1.wpAny_loadPart' hl)
      | (refine wpAny_ite_true (decide_eq_true c1) ?_; wp_walk using AutoSeq1.wpAny_loadPart' hl))
    exact ⟨_, rfl, h⟩
def rTupMul (K : PySem.W.Frag) : R2 := fun x y H Q => ∃ l k xs, x = .ref l ∧ y = .int k ∧ SqT K H l xs ∧ xs ≠ [] ∧ 1 ≤ k ∧ k ≤ 1000 ∧ xs.length ≤ 1000 ∧ (k = 1 → Q (.ref l) H) ∧ ∀ p, H p = none → Q (.ref p) (upd H p (.tup (List.replicate k.toNat xs).flatten))
end Ts
namespace Ts
open PySem PySem.Spec PyProof.Rows L2
section
variable {X : Cx}
theorem op_tupMul : OpR X (binaryOp .Mult) (rTupMul X.K) := by
  intro pins s σ H x y v u Q I rx ry h
  obtain ⟨l, k, xs, rfl, rfl, hT, hne, h1, h2, hz, q1, q⟩ := h
  by_cases hk : k = 1
  · subst hk
    have q2 := q1 rfl
    cases rx
    obtain ⟨t, rfl⟩ := ry
    obtain ⟨its, r, ⟨⟨cls, dd, data, sl⟩, ho, hc, n, hd⟩, hs⟩ := I.tuple hT
    simp only at hc hd
    subst hc hd
    have hi : its.toArray.isEmpty = false := by
      cases its with
      | nil =>
        cases r
        exact absurd rfl hne
      | cons a b => rfl
    exact wpAny_binaryOp_repeat_ref (T := "tuple") (U := "int") (by decide) ⟨_, ho, rfl⟩ (fun s' => typeIs_int s' 1 t) noFill_tuple_mul F.fills_int_mul F.slot_int_rmul repeat_tuple F.slot_int_index.lookup
      (call_meets F.slot_int_rmul (typeIs_int s 1 t) F.entry_int_rmul (F.args_int_rmul_2 _ _) (int_rmul_tuple 1 t l its.toArray n dd sl)
        ⟨ho, rfl, ⟨_, ho, rfl⟩, call_meets F.slot_tuple_mul ⟨_, ho, rfl⟩ F.entry_tuple_mul (F.args_tuple_mul_2 _ _) (tuple_mulOne l its.toArray n dd sl t hi) ⟨ho, ⟨.ref l, H, I, rfl, q2⟩⟩⟩)
  · exact op_repT pins s σ H _ _ v u Q I rx ry ⟨l, k, xs, rfl, rfl, hT, hne, by omega, h2, hz, q⟩

/-! ### t[lo:hi], the whole of it too -/
open HT in
theorem getItem_tuple_all {prog : Program} {w : World} {A : Around} {E : Value → Shared → Prop} {s : Shared} {t sl : Addr} {items : Array Value} {vl vu : Value} {lo hi : Option Int} {Q : Value → Shared → Prop} (ht : IsTup s.heap t items) (hs : s.heap.IsSliceOf sl vl vu .none) (pl : IsPart vl lo) (pu : IsPart vu hi)
    (hw : sIx items.size 0 lo = 0 ∧ sIx items.size items.size hi = items.size) (h : Q (.ref t) s) : wpAny (model prog w) A (getItem (.ref t) (.ref sl)) Q E s := by
  have hTs : s.TypeIs (.ref sl) "slice" := by
    obtain ⟨o, ho, hc, _⟩ := hs
    exact ⟨o, ho, hc⟩
  have whole : ((((sIx items.size 0 lo : Nat) : Int) == 0 && (1 : Int) == 1 && (sIx items.size items.size hi - sIx items.size 0 lo) == items.size) = true) := by
    rw [hw.1, hw.2]
    simp
  unfold getItem
  try with_reducible refine wpAny_holding ?_
  first | refine wpAny_bind (wpAny_pure ?_) | skip
  refine wpAny_bind (wpAny_sequenceKey ht.typeIs (by decide) (wpAny_bind (wpAny_callSpecial?_slot (name := Str.ofString "__getitem__") ht.typeIs PyProof.Rows.slot_tuple_getitem
    (wpAny_call_entry PyProof.Rows.slot_tuple_getitem ht.typeIs entry_tuple_getitem ?_ (args_tuple_getitem _ _)))))
  show wpAny _ _ (Builtin.Tuple.tupleItemsOf (.ref t) >>= _) _ _ s
  refine wpAny_bind (tupleItemsOf_ ht (wpAny_bind (wpAny_typeOf hTs ?_)))
  rw [if_pos (by decide)]
  refine wpAny_bind (sliceApplied_gen hs pl pu ?_)
  show wpAny _ _ (if (((sIx items.size 0 lo : Nat) : Int) == 0 && (1 : Int) == 1 && (sIx items.size items.size hi - sIx items.size 0 lo) == items.size) = true then _ else _) _ _ s
  rw [if_pos whole]
  obtain ⟨⟨oc, od, dt, osl⟩, ho, hc, n, hd⟩ := ht
  simp only at hc hd
  subst hc hd
  have hT : s.TypeIs (.ref t) "tuple" := ⟨_, ho, rfl⟩
  unfold Builtin.Tuple.tupleIsExact
  refine wpAny_bind ?_
  refine wpAny_bind (wpAny_typeOf hT ?_)
  refine wpAny_pure ?_
  rw [if_pos (by decide)]
  first
    | exact wpAny_bind (wpAny_rule (wpAny_pure ⟨_, rfl, wpAny_pure h⟩))
    | exact wpAny_bind (wpAny_rule (wpAny_bind (wpAny_pure (wpAny_pure ⟨_, rfl, wpAny_pure h⟩))))
    | exact wpAny_bind (wpAny_bind (wpAny_rule (wpAny_pure (wpAny_pure ⟨_, rfl, wpAny_pure h⟩))))
    | exact wpAny_bind (wpAny_bind (wpAny_rule (wpAny_pure ⟨_, rfl, wpAny_pure h⟩)))
    | exact wpAny_rule (wpAny_bind (wpAny_pure ⟨_, rfl, wpAny_pure h⟩))
def rSlTA (K : PySem.W.Frag) : V → Option Int → Option Int → Hp → VK → Prop := fun x lo hi H Q => ∃ a xs, x = .ref a ∧ SqT K H a xs ∧ (cutV xs lo hi = xs → Q (.ref a) H) ∧ ∀ p, H p = none → Q (.ref p) (upd H p (.tup (cutV xs lo hi)))
theorem sl_tupA : SlR X (rSlTA X.K) := by
  intro pins s σ H x v vl vu lo hi sl Q I rx hs pl pu h
  obtain ⟨a, xs, rfl, hx, q1, q⟩ := h
  by_cases hw : HT.sIx xs.length 0 lo = 0 ∧ HT.sIx xs.length xs.length hi = xs.length
  · cases rx
    obtain ⟨its, r, ht, hz⟩ := I.tuple hx
    have hlen : its.toArray.size = xs.length := by rw [List.size_toArray]; exact r.length.symm
    refine ⟨"tuple", _, PyProof.Rows.slot_tuple_getitem.lookup, ht.typeIs, ?_⟩
    refine getItem_tuple_all ht hs pl pu (by rw [hlen]; exact hw) ⟨.ref a, H, I, rfl, q1 ?_⟩
    unfold cutV
    rw [hw.1, hw.2]
    simp
  · exact sl_tup pins s σ H _ v vl vu lo hi sl Q I rx hs pl pu ⟨a, xs, rfl, hx, hw, q⟩

/-! ### set(t), t a tuple of ints -/
def rSetT (K : PySem.W.Frag) (w : World) : List V → Hp → VK → Prop := fun xs H Q => ∃ (l : Addr) (ns : List Int), xs = [V.ref l] ∧ SqT K H l (ns.map V.int) ∧ ns.length ≤ 1000 ∧
  ∀ p c, H p = none → c ≤ ns.length → Q (.ref p) (upd H p (SetO w p (fun j => decide (j ∈ ns)) c))
theorem cr_setT (hc : X.calm = true) : CallR X (.type "set") (rSetT X.K X.w) := by
  intro pins s σ H xs us Q I r h
  obtain ⟨l, ns, rfl, hq, hl, q⟩ := h
  rw [Vals.ref1 r]
  obtain ⟨its, rv, pt, hz⟩ := I.tuple hq
  refine call_set_tupI ns (I.ok.hd hc) (show s.heap.IsTuple l its.toArray from pt) (ints_of_vals rv) (by unfold scanBound; omega) fun h' tk c R1 hcn k => ?_
  have hn : H s.heap.objs.size = none := I.hok.fresh (Nat.le_refl _)
  exact ⟨.ref s.heap.objs.size, _, I.laid (t' := tk) (o := SetO X.w s.heap.objs.size (fun j => decide (j ∈ ns)) c) k (Nat.le_refl _) (setO_new R1), rfl, q _ c hn hcn⟩
end

/-! ### enumerate(t), t a tuple -/
set_option maxHeartbeats 1000000 in
theorem meets_enum1 {v : Value} {o : Obj} {H : Heap → Prop} (B : Begins v o H) :
    Meets (Builtin.«enumerate.__new__» ⟨[.type "enumerate", v], []⟩) (fun _ R s => H s.heap ∧
      R (.ok (.ret (.ref (s.heap.push o).objs.size))) { s with heap := (s.heap.push o).push { cls := .type "enumerate", data := .fields #[.none, .bool false, .ref s.heap.objs.size, rawInt 0, .none, .none] } }) :=
  .of_wp fun prog w A R s h => by
    obtain ⟨hp, g, d, tk, os⟩ := s
    obtain ⟨h1, h⟩ := h
    have hsub := sub_enumerate
    have q1 : ∀ {A' : Around} {E : Value → Shared → Prop} {Q : Value → Shared → Prop}, Q (.ref hp.objs.size) ⟨hp.push o, g, d, tk, os⟩ → wpAny (model prog w) A' (pyIter v) Q E ⟨hp, g, d, tk, os⟩ := by
      intro A' E Q q
      exact B.iter prog w _ _ ⟨hp, g, d, tk, os⟩ _ h1 q
    wp_walk using q1
    refine wpAny_stack_any fun st => wpAny_pure ?_
    split
    · rename_i c _ _ _ _ _
      cases (c == Value.type "enumerate") <;> (wp_walk using q1; exact ⟨_, rfl, h⟩)
    · wp_walk using q1
      exact ⟨_, rfl, h⟩
theorem enum1_begins {prog : Program} {w : World} {A : Around} {E : Value → Shared → Prop} {s : Shared} {v : Value} {o : Obj} {H : Heap → Prop} {Q : Value → Shared → Prop} (B : Begins v o H) (h1 : H s.heap)
    (h : ∀ h', IsEnum h' (s.heap.objs.size + 1) s.heap.objs.size 0 .none → h'.get? s.heap.objs.size = some o → h'.objs.size = s.heap.objs.size + 2 →
      (∀ b o, s.heap.get? b = some o → h'.get? b = some o) → Q (.ref (s.heap.objs.size + 1)) { s with heap := h' }) :
    wpAny (model prog w) A (call (.type "enumerate") [v]) Q E s := by
  refine callType_new F.called_enumerate (by decide) (F.typeCall_enumerate_1 _) (F.newCall_enumerate_1 _) (fun obj => F.args_object_init_2 obj _) F.entry_enumerate_new (meets_enum1 B) ⟨h1, ?_⟩
  have hz : (s.heap.push o).objs.size = s.heap.objs.size + 1 := Heap.size_push ..
  show _ ∧ _
  rw [hz]
  have he : IsEnum ((s.heap.push o).push { cls := .type "enumerate", data := .fields #[.none, .bool false, .ref s.heap.objs.size, rawInt 0, .none, .none] }) (s.heap.objs.size + 1) s.heap.objs.size 0 .none := by
    have z := Heap.get?_push_size (s.heap.push o) (o := { cls := .type "enumerate", data := .fields #[.none, .bool false, .ref s.heap.objs.size, rawInt 0, .none, .none] }) rfl
    rw [hz] at z
    exact z
  exact ⟨⟨_, he, rfl⟩, h _ he (Heap.get?_push_of_some _ (Heap.get?_push_size _ B.free)) (by rw [Heap.size_push, hz]) fun b o x => Heap.get?_push_of_some _ (Heap.get?_push_of_some _ x)⟩
/-- the tuple at a, each item in a new pair -/
def IteT (K : PySem.W.Frag) (a : Addr) : It :=
  ⟨fun i H => ∃ (xs : List V) (x : V), SqT K H a xs ∧ xs[i]? = some x, fun i H v H' => ∃ T x, v = .ref T ∧ H T = none ∧ H' = upd H T (.tup [.int (i : Nat), x]) ∧ ∀ xs, SqT K H a xs → xs[i]? = some x, fun i H => ∃ xs : List V, SqT K H a xs ∧ xs.length ≤ i⟩
theorem turn_enumT {P : Program} {w : World} {K : PySem.W.Frag} {elts : List Expr} {kk : Nat} {tpos : Pos} (a e it : Addr) (hae : a ≠ it) :
    Turn P w K (.Tuple elts kk tpos) (IteT K a) [e, it] e (fun i h => (∃ old, IsEnum h e it ((i : Nat) : Int) old) ∧ h.IsTupleIter it a i ∧ e ≠ it ∧ a ≠ e) where
  mem := by simp
  obj := fun i h st b hb => by
    obtain ⟨⟨old, he⟩, ⟨o, ho, hc, hd⟩, _⟩ := st
    have e' : b = e ∨ b = it := by simpa using hb
    rcases e' with z | z
    · rw [z]; exact ⟨_, he, fun v q => nomatch q⟩
    · rw [z]; exact ⟨o, ho, fun v q => by rw [hd] at q; cases q⟩
  keep := fun i h h' st k => by
    obtain ⟨⟨old, he⟩, hi, hne, hne2⟩ := st
    exact ⟨⟨old, k e (by simp) _ he⟩, hi.at (fun o q => k it (by simp) o q), hne, hne2⟩
  item := by
    intro X hP hw hK hc i pins s σ H E I hf st hg
    subst hP hw hK
    obtain ⟨⟨old, he⟩, hit, hne, hne2⟩ := st
    obtain ⟨xs, x, hq, hx⟩ := hg
    obtain ⟨its, rv, p, hz⟩ := I.tuple hq
    obtain ⟨u, hu, ru⟩ := rv.get hx
    have hel : e < s.heap.objs.size := Heap.lt_size he
    have hil : it < s.heap.objs.size := by
      obtain ⟨_, q, _⟩ := hit
      exact Heap.lt_size q
    have hlt : i < its.toArray.size := by
      rw [List.size_toArray]
      exact (List.getElem?_eq_some_iff.mp hu).1
    refine wpAny_pyNext_enum_itemD (Draws.tuple (A := X.A.in1) (I.ok.hd hc) it a hae its.toArray) he ⟨hit, show s.heap.IsTuple a its.toArray from p⟩ hlt hne (by simpa using ⟨hne, hne2.symm⟩) fun u' h' tk hP ho st' hT hsz hk => ?_
    have eu : u' = u := by
      have z : its.toArray[i]? = some u' := hP
      rw [List.getElem?_toArray, hu] at z
      exact (Option.some.inj z).symm
    subst eu
    refine ⟨_, rfl, wpAny_letOwnedTupleGo_enum (s := { s with heap := h', toks := tk + 1 }) ho fun h'' he' sb => ?_⟩
    have hT2 : h''.get? s.heap.objs.size = some { cls := .type "tuple", data := .seq #[.int i tk, u'] } := (sb.2 _ (Nat.ne_of_gt hel)).trans hT
    have new : ObjOk X.prog X.w (upd H s.heap.objs.size (.tup [.int (i : Nat), x])) h'' s.heap.objs.size (.tup [.int (i : Nat), x]) :=
      ⟨by show 2 ≤ sizeLine; decide, [.int i tk, u'], .cons ⟨_, rfl⟩ (.cons ru .nil), ⟨_, hT2, rfl, _, rfl⟩⟩
    have I1 : Inv X pins σ (upd H s.heap.objs.size (.tup [.int (i : Nat), x])) { s with heap := h'', toks := tk + 1 } :=
      I.turnedNew (ch := [e, it]) (fun b ob hb q => (sb.2 b (fun z => hb (by simp [z]))).trans (hk b ob (fun z => hb (by simp [z])) (fun z => hb (by simp [z])) q)) hf (Nat.le_refl _) new
    refine ⟨.ref s.heap.objs.size, _, I1, rfl, ⟨_, x, rfl, I.hok.fresh (Nat.le_refl _), rfl, fun ys hy => by rw [I.tuple_inj hy hq]; exact hx⟩, ⟨⟨u', ?_⟩, st'.1.at fun o q => (sb.2 it (Ne.symm hne)).trans q, hne, hne2⟩, fun b hb => ?_⟩
    · have e1 : ((i + 1 : Nat) : Int) = (i : Int) + 1 := by omega
      rw [e1]; exact he'
    · have hb' : b < s.heap.objs.size := by
        have e' : b = e ∨ b = it := by simpa using hb
        rcases e' with z | z
        · rw [z]; exact hel
        · rw [z]; exact hil
      rw [upd_ne (Nat.ne_of_lt hb')]
      exact (hf b hb).1
  done := by
    intro X hP hw hK hc i pins s σ H E I hf st hg
    subst hP hw hK
    obtain ⟨⟨old, he⟩, hit, hne, hne2⟩ := st
    obtain ⟨xs, hq, hx⟩ := hg
    obtain ⟨its, rv, p, hz⟩ := I.tuple hq
    obtain ⟨f0, f1, f2, f3, f4, f5⟩ := hf it (by simp)
    have hl := rv.length
    have hend : its.toArray[i]? = none := by
      rw [List.getElem?_toArray, List.getElem?_eq_none_iff]
      omega
    have hT : s.TypeIs (.ref e) "enumerate" := ⟨_, he, rfl⟩
    have fin : ∀ h', Heap.ExtBut it s.heap h' → ∃ _z : (none : Option Value) = none, Inv X pins σ H { s with heap := h' } := fun h' eb => ⟨rfl, I.turned (t' := s.toks) (fun b o hb q => eb b o hb q) f0 f1 f3 f4 f5⟩
    unfold pyNext
    refine wpAny_bind (wpAny_attempt (wpAny_callSpecial?_slot (name := Str.ofString "__next__") hT F.slot_enumerate_next
      (wpAny_call_entry F.slot_enumerate_next hT F.entry_enumerate_next ?_ (F.args_enumerate_next_1 _))))
    show wpAny _ _ (field (.ref e) 2 >>= _) _ _ _
    refine wpAny_bind (wpAny_field he rfl (x := .ref it) rfl ?_)
    refine wpAny_bind (wpAny_nextOf_tuple_end (I.ok.hd hc) hit (show s.heap.IsTuple a its.toArray from p) hend fun h' x he' hx' => ?_)
    obtain ⟨o, ho, hcx⟩ := hx'
    refine wpAny_bind (wpAny_isInstance (T := "StopIteration") (b := true) ⟨o, ho, hcx⟩ isSubtype_stop ?_)
    refine wpAny_pure ?_
    exact ⟨rfl, (fin h' he').2⟩
  self := fun A i s Q E st h => by
    obtain ⟨⟨_, he⟩, _⟩ := st
    exact wpAny_pyIter_enum he h
def iEnumT (K : PySem.W.Frag) (ta : TA) : TI := fun σ H R => ta σ H fun vs H1 => ∃ a xs, vs = [.ref a] ∧ SqT K H1 a xs ∧ R (IteT K a) H1
theorem pi_enumT {X : Cx} {e : Expr} {ta : TA} {p pos tpos : Pos} {elts : List Expr} {kk : Nat} (hg : Gl X "enumerate") (hm : X.mg "enumerate" = none) (ha : PA X [e] ta) (hs : starEach [e] X.env = [(false, eval e X.env)] := by rfl) :
    PI X (.Tuple elts kk tpos) (.Call (.Name "enumerate" p) [e] [] pos) (iEnumT X.K ta) := by
  refine ⟨fun pins s σ H R I h => ?_⟩
  refine Call_ (ld_blt I hg hm boot_enumerate (PyProof.Rows.callWith_type1 (thn (ha.run pos pins s σ H _ I h) fun us s1 h1 => ?_) hs rfl))
  obtain ⟨vs, H1, I1, r1, a, xs, ex, hq, q⟩ := h1
  subst ex
  rw [Vals.ref1 r1]
  obtain ⟨its, rv, p', hz⟩ := I1.tuple hq
  have pt : s1.heap.IsTuple a its.toArray := p'
  have al : a < s1.heap.objs.size := by
    obtain ⟨_, z, _⟩ := p'
    exact Heap.lt_size z
  refine enum1_begins (begins_tuple a its.toArray) pt fun h' he hit hsz hk => wpAny_pyIter_enum he ?_
  have I2 : Inv X pins σ H1 { s1 with heap := h' } := I1.kept (t' := s1.toks) hk
  refine ⟨s1.heap.objs.size + 1, [s1.heap.objs.size + 1, s1.heap.objs.size], _, _, H1, rfl, I2, turn_enumT a (s1.heap.objs.size + 1) s1.heap.objs.size (Nat.ne_of_lt al), ⟨⟨.none, he⟩, ⟨_, hit, rfl, rfl⟩, Nat.succ_ne_self _, Nat.ne_of_lt (Nat.lt_succ_of_lt al)⟩, fun b hb => ?_, q⟩
  have e' : b = s1.heap.objs.size + 1 ∨ b = s1.heap.objs.size := by simpa using hb
  have hle : s1.heap.objs.size ≤ b := by
    rcases e' with z | z
    · rw [z]; exact Nat.le_add_right _ _
    · rw [z]; exact Nat.le_refl _
  exact I1.fpOk hle (I1.hok.fresh hle)
end Ts
/-! TsLib: what stays of the heap, data that are read, short words. -/
namespace Ts
open PySem PySem.Spec PyProof.Rows L2

/-! ### what stays -/
/-- all that is tracked stays, but what stands at L -/
def Kp (L : List Addr) (H H' : Hp) : Prop := ∀ a o, H a = some o → a ∉ L → H' a = some o
abbrev Ex (H H' : Hp) : Prop := Evl.Ex H H'
theorem Kp.refl {L : List Addr} (H : Hp) : Kp L H H := fun _ _ h _ => h
theorem Kp.trans {L : List Addr} {H H1 H2 : Hp} (a : Kp L H H1) (b : Kp L H1 H2) : Kp L H H2 := fun x o h n => b x o (a x o h n) n
theorem Kp.mono {L L' : List Addr} {H H' : Hp} (a : Kp L H H') (h : ∀ x, x ∈ L → x ∈ L') : Kp L' H H' := fun x o e n => a x o e fun z => n (h x z)
theorem Kp.ex {L : List Addr} {H H' : Hp} (a : Ex H H') : Kp L H H' := fun x o e _ => a x o e
theorem ex_new {H : Hp} {p : Addr} {o : HO} (h : H p = none) : Ex H (upd H p o) := fun a u e => by
  rw [upd_ne (ne_of_none e h)]
  exact e
theorem ex_newT {H H' : Hp} {p : Addr} {o : HO} (k : Ex H H') (h : H' p = none) : Ex H (upd H' p o) := Evl.Ex.trans k (ex_new h)
/-- what H does not know may change behind it -/
theorem ex_chg {H H' : Hp} {p : Addr} {o : HO} (k : Ex H H') (h : H p = none) : Ex H (upd H' p o) := fun a u e => by
  rw [upd_ne (ne_of_none e h)]
  exact k a u e
theorem Kp.new {L : List Addr} {H : Hp} {p : Addr} {o : HO} (h : H p = none) : Kp L H (upd H p o) := Kp.ex (ex_new h)
theorem Kp.set {L : List Addr} {H : Hp} {p : Addr} {o : HO} (h : p ∈ L) : Kp L H (upd H p o) := fun a u e n => by
  rw [upd_ne (fun z => n (by rw [z]; exact h))]
  exact e
theorem Kp.chg {L : List Addr} {H H' : Hp} {p : Addr} {o : HO} (k : Kp L H H') (h : H p = none) : Kp L H (upd H' p o) := fun a u e n => by
  rw [upd_ne (ne_of_none e h)]
  exact k a u e n
theorem Kp.newT {L : List Addr} {H H' : Hp} {p : Addr} {o : HO} (k : Kp L H H') (h : H' p = none) : Kp L H (upd H' p o) := k.trans (Kp.new h)
theorem Kp.setT {L : List Addr} {H H' : Hp} {p : Addr} {o : HO} (k : Kp L H H') (h : p ∈ L) : Kp L H (upd H' p o) := k.trans (Kp.set h)
theorem ex_free {H H' : Hp} {p : Addr} (k : Ex H H') (h : H' p = none) : H p = none := by
  cases e : H p with
  | none => rfl
  | some o =>
    have z := k p o e
    rw [h] at z
    cases z
theorem Kp.free1 {s : Addr} {H H' : Hp} {p : Addr} {o : HO} (k : Kp [s] H H') (hs : H' s = some o) (h : H' p = none) : H p = none := by
  cases e : H p with
  | none => rfl
  | some u =>
    have z := k p u e (by
      intro m
      rw [List.mem_singleton.mp m, hs] at h
      cases h)
    rw [h] at z
    cases z

/-- what is read as a list or a tuple stays so -/
structure Sb (K : PySem.W.Frag) (H H' : Hp) : Prop where
  l : ∀ a xs, SqL K H a xs → SqL K H' a xs
  t : ∀ a xs, SqT K H a xs → SqT K H' a xs
theorem Sb.refl {K : PySem.W.Frag} (H : Hp) : Sb K H H := ⟨fun _ _ h => h, fun _ _ h => h⟩
theorem Sb.trans {K : PySem.W.Frag} {H H1 H2 : Hp} (a : Sb K H H1) (b : Sb K H1 H2) : Sb K H H2 := ⟨fun x o h => b.l x o (a.l x o h), fun x o h => b.t x o (a.t x o h)⟩
def seqO : HO → Bool
  | .lst _ => true
  | .tup _ => true
  | .frz _ _ => true
  | _ => false
theorem Kp.sb {K : PySem.W.Frag} {L : List Addr} {H H' : Hp} (k : Kp L H H') (hL : ∀ a ∈ L, ∀ o, H a = some o → seqO o = false) : Sb K H H' := by
  have st : ∀ a o, H a = some o → seqO o = true → H' a = some o := by
    intro a o e hs
    refine k a o e fun m => ?_
    rw [hL a m o e] at hs
    cases hs
  constructor
  · intro a xs h
    rcases h with (h | ⟨o, h⟩) | h
    · exact .inl (.inl (st _ _ h rfl))
    · exact .inl (.inr ⟨o, st _ _ h rfl⟩)
    · exact .inr h
  · intro a xs h
    rcases h with (h | ⟨o, h⟩) | h
    · exact .inl (.inl (st _ _ h rfl))
    · exact .inl (.inr ⟨o, st _ _ h rfl⟩)
    · exact .inr h
theorem ex_sb {K : PySem.W.Frag} {H H' : Hp} (k : Ex H H') : Sb K H H' := Kp.sb (L := []) (Kp.ex k) fun _ m => by cases m
theorem Kp.sb1 {K : PySem.W.Frag} {s : Addr} {H H' : Hp} {o : HO} (k : Kp [s] H H') (hs : H s = some o) (ho : seqO o = false) : Sb K H H' :=
  Kp.sb k fun a m u e => by
    rw [List.mem_singleton.mp m, hs] at e
    cases e
    exact ho
theorem sb_new {K : PySem.W.Frag} {H : Hp} {p : Addr} {o : HO} (h : H p = none) : Sb K H (upd H p o) := ex_sb (ex_new h)

/-! ### data -/
mutual
theorem dp_sb {K : PySem.W.Frag} {H H' : Hp} (k : Sb K H H') : ∀ {v : V} {d : PyData}, Dp K H v d → Dp K H' v d
  | _, _, .non => .non
  | _, _, .bl b => .bl b
  | _, _, .int i => .int i
  | _, _, .str x => .str x
  | _, _, .lst hs ha => .lst (k.l _ _ hs) (dpa_sb k ha)
  | _, _, .tup hs ha => .tup (k.t _ _ hs) (dpa_sb k ha)
theorem dpa_sb {K : PySem.W.Frag} {H H' : Hp} (k : Sb K H H') : ∀ {vs : List V} {ds : List PyData}, DpAll K H vs ds → DpAll K H' vs ds
  | _, _, .nil => .nil
  | _, _, .cons h t => .cons (dp_sb k h) (dpa_sb k t)
end
theorem dpa_len {K : PySem.W.Frag} {H : Hp} : ∀ {vs : List V} {ds : List PyData}, DpAll K H vs ds → vs.length = ds.length
  | _, _, .nil => rfl
  | _, _, .cons _ t => congrArg Nat.succ (dpa_len t)
theorem dpa_get {K : PySem.W.Frag} {H : Hp} : ∀ {vs : List V} {ds : List PyData} {i : Nat} {v : V}, DpAll K H vs ds → vs[i]? = some v → ∃ d, ds[i]? = some d ∧ Dp K H v d
  | _, _, _, _, .nil, e => by simp at e
  | _, _, 0, _, .cons h _, e => by
    simp at e
    subst e
    exact ⟨_, rfl, h⟩
  | _, _, i + 1, v, .cons _ t, e => by
    obtain ⟨d, h1, h2⟩ := dpa_get (i := i) (v := v) t (by simpa using e)
    exact ⟨d, by simpa using h1, h2⟩
theorem dpa_getD {K : PySem.W.Frag} {H : Hp} : ∀ {vs : List V} {ds : List PyData} {i : Nat} {d : PyData}, DpAll K H vs ds → ds[i]? = some d → ∃ v, vs[i]? = some v ∧ Dp K H v d
  | _, _, _, _, .nil, e => by simp at e
  | _, _, 0, _, .cons h _, e => by
    simp at e
    subst e
    exact ⟨_, rfl, h⟩
  | _, _, i + 1, v, .cons _ t, e => by
    obtain ⟨d, h1, h2⟩ := dpa_getD (i := i) (d := v) t (by simpa using e)
    exact ⟨d, by simpa using h1, h2⟩
theorem dpa_app {K : PySem.W.Frag} {H : Hp} : ∀ {vs us : List V} {ds es : List PyData}, DpAll K H vs ds → DpAll K H us es → DpAll K H (vs ++ us) (ds ++ es)
  | _, _, _, _, .nil, h => h
  | _, _, _, _, .cons a t, h => .cons a (dpa_app t h)
theorem dpa_ints {K : PySem.W.Frag} {H : Hp} : ∀ ns : List Int, DpAll K H (ns.map V.int) (ns.map PyData.int)
  | [] => .nil
  | _ :: r => .cons (.int _) (dpa_ints r)
theorem ints_dpa {K : PySem.W.Frag} {H : Hp} : ∀ {vs : List V} {ns : List Int}, DpAll K H vs (ns.map PyData.int) → vs = ns.map V.int
  | _, [], h => by
    cases h
    rfl
  | _, n :: r, h => by
    cases h with
    | cons a t =>
      cases a
      rw [ints_dpa t]
      rfl
/-- a tuple of ints -/
abbrev dInts (ns : List Int) : PyData := .tuple (ns.map PyData.int)
theorem dp_ints {K : PySem.W.Frag} {H : Hp} {v : V} {ns : List Int} (h : Dp K H v (dInts ns)) : ∃ a, v = .ref a ∧ SqT K H a (ns.map V.int) := by
  cases h with
  | tup hs ha =>
    rw [ints_dpa ha] at hs
    exact ⟨_, rfl, hs⟩
theorem dp_tup {K : PySem.W.Frag} {H : Hp} {v : V} {ds : List PyData} (h : Dp K H v (.tuple ds)) : ∃ a vs, v = .ref a ∧ SqT K H a vs ∧ DpAll K H vs ds := by
  cases h with
  | tup hs ha => exact ⟨_, _, rfl, hs, ha⟩
theorem dp_lst {K : PySem.W.Frag} {H : Hp} {v : V} {ds : List PyData} (h : Dp K H v (.list ds)) : ∃ a vs, v = .ref a ∧ SqL K H a vs ∧ DpAll K H vs ds := by
  cases h with
  | lst hs ha => exact ⟨_, _, rfl, hs, ha⟩
theorem dp_of_ints {K : PySem.W.Frag} {H : Hp} {a : Addr} {ns : List Int} (h : SqT K H a (ns.map V.int)) : Dp K H (.ref a) (dInts ns) := .tup h (dpa_ints ns)

/-! ### short words -/
theorem ifB {c : Bool} {A B : Prop} (h1 : c = true → A) (h2 : c = false → B) : if c = true then A else B := by
  cases c with
  | true => exact h1 rfl
  | false => exact h2 rfl
/-- what an expression evaluates to, the heap as it is -/
theorem v_and {ta tb : TE} {σ : L2.St} {H : Hp} {a b : Bool} (h1 : Val ta σ H (.bl a)) (h2 : a = true → Val tb σ H (.bl b)) : Val (tAndV ta tb) σ H (.bl (a && b)) := by
  intro Q q
  refine h1 _ ⟨a, rfl, ?_⟩
  cases a with
  | true => exact h2 rfl _ q
  | false => exact q
theorem v_or {ta tb : TE} {σ : L2.St} {H : Hp} {a b : Bool} (h1 : Val ta σ H (.bl a)) (h2 : a = false → Val tb σ H (.bl b)) : Val (tOrV ta tb) σ H (.bl (a || b)) := by
  intro Q q
  refine h1 _ ⟨a, rfl, ?_⟩
  cases a with
  | true => exact q
  | false => exact h2 rfl _ q
theorem v_not {ta : TE} {σ : L2.St} {H : Hp} {a : Bool} (h1 : Val ta σ H (.bl a)) : Val (tNotV ta) σ H (.bl (!a)) := fun Q q => h1 _ ⟨a, rfl, q⟩
theorem v_isa {K : PySem.W.Frag} {T : String} {te : TE} {σ : L2.St} {H : Hp} {x : V} {d : PyData} (h : Val te σ H x) (hd : Dp K H x d) : Val (tIsa K T te) σ H (.bl (isaD T d)) := fun Q q => h _ ⟨d, hd, q⟩

/-! ### comprehensions whose turns leave what stood: acc, what is made in so many turns -/
section
variable {K : PySem.W.Frag} {σ : L2.St} {H : Hp} {Q : VK} {tl te : TE} {tt : TT} {j : Nat} {vs : List Nat} {a : Addr} {xs : List V}
/-- one turn -/
def LcTurn (H : Hp) (σ2 : L2.St) (tt : TT) (te : TE) (b : Bool) (v : V) : Prop :=
  (∀ H', Ex H H' → ∀ R : Bool → Hp → Prop, (∀ H2, Ex H' H2 → R b H2) → tt σ2 H' R) ∧ (b = true → ∀ H', Ex H H' → ∀ R : VK, (∀ H2, Ex H' H2 → R v H2) → te σ2 H' R)
def LcAcc (n : Nat) (f : Nat → Bool) (v : Nat → V) (acc : Nat → List V) : Prop := acc 0 = [] ∧ ∀ i, i < n → acc (i + 1) = if f i = true then acc i ++ [v i] else acc i
theorem LcAcc.le {n : Nat} {f : Nat → Bool} {v : Nat → V} {acc : Nat → List V} (h : LcAcc n f v acc) : ∀ i, i ≤ n → (acc i).length ≤ i
  | 0, _ => by
    rw [h.1]
    exact Nat.le_refl _
  | i + 1, hi => by
    rw [h.2 i hi]
    have := LcAcc.le h i (Nat.le_of_succ_le hi)
    split
    · rw [List.length_append, List.length_singleton]
      omega
    · omega
theorem lc_turn {D : Addr} {n i : Nat} {f : Nat → Bool} {v : Nat → V} {acc : Nat → List V} {σ2 : L2.St} {H1 : Hp} (hA : LcAcc n f v acc) (hn : n ≤ 1000000) (hi : i < n) (hD : H D = none) (e : Ex H H1) (h1 : H1 D = some (.lst (acc i))) (t : LcTurn H σ2 tt te (f i) (v i))
    (Pv : Nat → Hp → Prop) (hP : ∀ H2, Ex H H2 → H2 D = some (.lst (acc (i + 1))) → Pv (i + 1) H2) :
    tt σ2 H1 fun b H3 => if b = true then te σ2 H3 fun y H4 => ∃ acc, H4 D = some (.lst acc) ∧ acc.length < sizeLine ∧ Pv (i + 1) (upd H4 D (.lst (acc ++ [y]))) else Pv (i + 1) H3 := by
  refine t.1 H1 e _ fun H2 e2 => ?_
  have eA := hA.2 i hi
  cases hf : f i with
  | false =>
    refine iteF (hP H2 (Evl.Ex.trans e e2) ?_)
    rw [eA, hf, if_neg Bool.false_ne_true]
    exact e2 _ _ h1
  | true =>
    refine iteT (t.2 hf H2 (Evl.Ex.trans e e2) _ fun H3 e3 => ?_)
    have h3 := e3 _ _ (e2 _ _ h1)
    refine ⟨acc i, h3, ?_, hP _ (ex_chg (Evl.Ex.trans e (Evl.Ex.trans e2 e3)) hD) ?_⟩
    · have := hA.le i (Nat.le_of_lt hi)
      rw [sizeLine_eq]
      omega
    · rw [upd_same, eA, hf, if_pos rfl]
theorem lcT (f : Nat → Bool) (v : Nat → V) (acc : Nat → List V) (h : Val tl σ H (.ref a)) (hx : SqT K H a xs) (hn : xs.length ≤ 1000000) (hA : LcAcc xs.length f v acc) (hw : ∀ x, wipe ((wipe σ vs).set j (some x)) vs = wipe σ vs)
    (ht : ∀ i x, xs[i]? = some x → LcTurn H ((wipe σ vs).set j (some x)) tt te (f i) (v i)) (k : ∀ D H', H D = none → Ex H H' → H' D = some (.lst (acc xs.length)) → Q (.ref D) H') :
    tLc (iTup K tl) (gName j) tt te vs σ H Q := by
  refine h _ ⟨a, rfl, ⟨xs, hx⟩, fun D hD => ?_⟩
  refine lc_tup (K := K) (a := a) (xs := xs) (fun i H' => Ex H H' ∧ H' D = some (.lst (acc i))) ⟨ex_new hD, by rw [upd_same, hA.1]⟩ (fun i H' _ p => (ex_sb p.1).t _ _ hx) (fun i x H' e p => ?_) (fun H' p => k D H' hD p.1 p.2)
  have hi : i < xs.length := (List.getElem?_eq_some_iff.mp e).1
  exact ⟨hw x, lc_turn hA hn hi hD p.1 p.2 (ht i x e) (fun i H' => Ex H H' ∧ H' D = some (.lst (acc i))) fun H2 a b => ⟨a, b⟩⟩
theorem lcL (f : Nat → Bool) (v : Nat → V) (acc : Nat → List V) (h : Val tl σ H (.ref a)) (hx : SqL K H a xs) (hn : xs.length ≤ 1000000) (hA : LcAcc xs.length f v acc) (hw : ∀ x, wipe ((wipe σ vs).set j (some x)) vs = wipe σ vs)
    (ht : ∀ i x, xs[i]? = some x → LcTurn H ((wipe σ vs).set j (some x)) tt te (f i) (v i)) (k : ∀ D H', H D = none → Ex H H' → H' D = some (.lst (acc xs.length)) → Q (.ref D) H') :
    tLc (iList K tl) (gName j) tt te vs σ H Q := by
  refine h _ ⟨a, rfl, ⟨xs, hx⟩, fun D hD => ?_⟩
  refine lc_list (K := K) (a := a) (xs := xs) (fun i H' => Ex H H' ∧ H' D = some (.lst (acc i))) ⟨ex_new hD, by rw [upd_same, hA.1]⟩ (fun i H' _ p => (ex_sb p.1).l _ _ hx) (fun i x H' e p => ?_) (fun H' p => k D H' hD p.1 p.2)
  have hi : i < xs.length := (List.getElem?_eq_some_iff.mp e).1
  exact ⟨hw x, lc_turn hA hn hi hD p.1 p.2 (ht i x e) (fun i H' => Ex H H' ∧ H' D = some (.lst (acc i))) fun H2 a b => ⟨a, b⟩⟩
theorem lcR {n : Nat} (f : Nat → Bool) (v : Nat → V) (acc : Nat → List V) (hn : n ≤ 1000000) (h : Val tl σ H (.int (n : Int))) (hA : LcAcc n f v acc) (hw : ∀ x, wipe ((wipe σ vs).set j (some x)) vs = wipe σ vs)
    (ht : ∀ i, i < n → LcTurn H ((wipe σ vs).set j (some (.int (i : Int)))) tt te (f i) (v i)) (k : ∀ D H', H D = none → Ex H H' → H' D = some (.lst (acc n)) → Q (.ref D) H') :
    tLc (iRng1 (tCons tl tNil)) (gName j) tt te vs σ H Q := by
  refine h _ ⟨n, rfl, by omega, by omega, fun D hD => ?_⟩
  rw [Int.toNat_natCast]
  refine lc_range (lo := 0) (n := n) (fun i H' => Ex H H' ∧ H' D = some (.lst (acc i))) ⟨ex_new hD, by rw [upd_same, hA.1]⟩ (fun i H' hi p => ?_) (fun H' p => k D H' hD p.1 p.2)
  rw [Int.zero_add]
  exact ⟨hw _, lc_turn hA hn hi hD p.1 p.2 (ht i hi) (fun i H' => Ex H H' ∧ H' D = some (.lst (acc i))) fun H2 a b => ⟨a, b⟩⟩
/-- no test -/
theorem yes_turn {σ2 : L2.St} {v : V} (h : ∀ H', Ex H H' → ∀ R : VK, (∀ H2, Ex H' H2 → R v H2) → te σ2 H' R) : LcTurn H σ2 tYes te true v :=
  ⟨fun H' _ R q => q H' (Evl.Ex.refl _), fun _ => h⟩
/-- a turn that leaves the heap as it is -/
theorem val_turn {σ2 : L2.St} {v : V} {b : Bool} (h1 : ∀ H', Ex H H' → Ans tt σ2 H' b) (h2 : b = true → ∀ H', Ex H H' → Val te σ2 H' v) : LcTurn H σ2 tt te b v :=
  ⟨fun H' e R q => h1 H' e R (q H' (Evl.Ex.refl _)), fun hb H' e R q => h2 hb H' e R (q H' (Evl.Ex.refl _))⟩
theorem ans_yes {σ2 : L2.St} : Ans tYes σ2 H true := fun _ q => q
/-- the list that a map makes -/
theorem acc_map {α : Type} (zs : List α) (g : α → V) : LcAcc zs.length (fun _ => true) (fun i => (zs[i]?.map g).getD .non) (fun i => (zs.take i).map g) := by
  refine ⟨rfl, fun i hi => ?_⟩
  have e1 : zs.take (i + 1) = zs.take i ++ [zs[i]] := by rw [List.take_succ, List.getElem?_eq_getElem hi, Option.toList_some]
  have e2 : (zs[i]?.map g).getD .non = g zs[i] := by rw [List.getElem?_eq_getElem hi]; rfl
  show (zs.take (i + 1)).map g = if true = true then (zs.take i).map g ++ [(zs[i]?.map g).getD .non] else (zs.take i).map g
  rw [if_pos rfl, e1, e2, List.map_append]
  rfl
theorem acc_filter {α : Type} (zs : List α) (p : α → Bool) (g : α → V) :
    LcAcc zs.length (fun i => (zs[i]?.map p).getD false) (fun i => (zs[i]?.map g).getD .non) (fun i => ((zs.take i).filter p).map g) := by
  refine ⟨rfl, fun i hi => ?_⟩
  have e1 : zs.take (i + 1) = zs.take i ++ [zs[i]] := by rw [List.take_succ, List.getElem?_eq_getElem hi, Option.toList_some]
  have e2 : (zs[i]?.map g).getD .non = g zs[i] := by rw [List.getElem?_eq_getElem hi]; rfl
  have e3 : (zs[i]?.map p).getD false = p zs[i] := by rw [List.getElem?_eq_getElem hi]; rfl
  show ((zs.take (i + 1)).filter p).map g = if (zs[i]?.map p).getD false = true then ((zs.take i).filter p).map g ++ [(zs[i]?.map g).getD .non] else ((zs.take i).filter p).map g
  simp only [e1, e2, e3, List.filter_append, List.map_append]
  cases h : p zs[i] <;> simp [h]
end

/-! ### walks -/
theorem walk_enumT {K : PySem.W.Frag} {a : Addr} {xs : List V} : Walk (IteT K a) xs.length (fun H => SqT K H a xs) (YPair (fun i => some (.int (i : Nat))) (fun i => xs[i]?)) where
  goes := fun i H hi h => ⟨xs, xs[i], h, by simp [hi]⟩
  stops := fun H h => ⟨xs, h, Nat.le_refl _⟩
  yields := fun i H v H' _ h y => by
    obtain ⟨T, x, ev, hT, eH, hx⟩ := y
    exact ⟨T, _, x, ev, hT, eH, rfl, hx xs h⟩
theorem walk_zipT {K : PySem.W.Frag} {a b : Addr} {xs ys : List V} (e : xs.length = ys.length) : Walk (RZ.ItzT K a b) xs.length (fun H => SqT K H a xs ∧ SqT K H b ys) (YPair (fun i => xs[i]?) (fun i => ys[i]?)) where
  goes := fun i H hi h => ⟨xs, ys, xs[i], ys[i], h.1, h.2, by simp [hi], by simp [← e, hi]⟩
  stops := fun H h => ⟨xs, ys, h.1, h.2, .inl (Nat.le_refl _)⟩
  yields := fun i H v H' _ h y => by
    obtain ⟨T, x, z, ev, hT, eH, hx, hz⟩ := y
    exact ⟨T, x, z, ev, hT, eH, hx xs h.1, hz ys h.2⟩
theorem walk_revT {K : PySem.W.Frag} {a : Addr} {xs : List V} : Walk (RT.ItvT K a xs.length) xs.length (fun H => SqT K H a xs) (fun i H x H' => H' = H ∧ xs[xs.length - 1 - i]? = some x) where
  goes := fun i H hi h => ⟨hi, xs, xs[xs.length - 1 - i]'(by omega), h, by simp⟩
  stops := fun H h => Nat.le_refl _
  yields := fun i H x H' _ h y => ⟨y.1, y.2 xs h⟩
/-- over a pair of tuples, a, b the two names -/
theorem lcZ {K : PySem.W.Frag} {σ : L2.St} {H : Hp} {Q : VK} {ta : TA} {te : TE} {tt : TT} {i1 i2 : Nat} {vs : List Nat} {a b : Addr} {xs ys : List V} (f : Nat → Bool) (v : Nat → V) (acc : Nat → List V)
    (h : ∀ R : List V → Hp → Prop, R [.ref a, .ref b] H → ta σ H R) (hx : SqT K H a xs) (hy : SqT K H b ys) (he : xs.length = ys.length) (hn : xs.length ≤ 1000000) (hA : LcAcc xs.length f v acc)
    (hw : ∀ x y, wipe (((wipe σ vs).set i1 (some x)).set i2 (some y)) vs = wipe σ vs)
    (ht : ∀ i x y, xs[i]? = some x → ys[i]? = some y → LcTurn H (((wipe σ vs).set i1 (some x)).set i2 (some y)) tt te (f i) (v i)) (k : ∀ D H', H D = none → Ex H H' → H' D = some (.lst (acc xs.length)) → Q (.ref D) H') :
    tLc (RZ.iZipA K ta) (gTup K 2 (gCons (gName i1) (gCons (gName i2) gNil))) tt te vs σ H Q := by
  refine h _ ⟨a, b, xs, ys, rfl, .inr ⟨hx, hy, fun D hD => ?_⟩⟩
  refine lc_it (walk_zipT (K := K) (a := a) (b := b) he) (fun i H' => Ex H H' ∧ H' D = some (.lst (acc i))) ⟨ex_new hD, by rw [upd_same, hA.1]⟩ (fun i H' _ p => ⟨(ex_sb p.1).t _ _ hx, (ex_sb p.1).t _ _ hy⟩) (fun i z H' H2 hi p y => ?_) (fun H' p => k D H' hD p.1 p.2)
  obtain ⟨T, x, u, ev, hT, eH, hxi, hyi⟩ := y
  subst ev eH
  refine ⟨T, [x, u], rfl, SqT.of upd_same, rfl, x, [u], rfl, u, [], rfl, rfl, hw x u, ?_⟩
  exact lc_turn hA hn hi hD (ex_newT p.1 hT) (ex_new hT _ _ p.2) (ht i x u hxi hyi) (fun i H' => Ex H H' ∧ H' D = some (.lst (acc i))) fun H2 a b => ⟨a, b⟩

/-! ### readings, a step each -/
section
variable {K : PySem.W.Frag} {σ : L2.St} {H : Hp} {Q : VK} {ta tb te : TE} {t u : TT} {D : Ends} {x y v : V}
theorem r_ret (h : te σ H D.rt) : tRet te D σ H := h
theorem r_seq {a b : TS} (h : a { D with nx := b D } σ H) : tSeq a b D σ H := h
theorem r_next (h : D.nx σ H) : tNext D σ H := h
theorem r_asg {i : Nat} (h : te σ H fun x H1 => D.nx (σ.set i (some x)) H1) : tAsg te (gName i) D σ H := h
theorem r_drop (h : te σ H fun _ H1 => D.nx σ H1) : tDrop te D σ H := h
theorem r_ifS {a b : TS} (h : t σ H fun c H1 => if c = true then a D σ H1 else b D σ H1) : tIfS t a b D σ H := h
theorem r_varE {i : Nat} (h : ∃ v, σ[i]? = some (some v) ∧ Q v H) : tVar i σ H Q := h
theorem r_var {i : Nat} (h : σ[i]? = some (some v)) (k : Q v H) : tVar i σ H Q := ⟨v, h, k⟩
theorem r_c (k : Q v H) : tC v σ H Q := k
theorem r_op {r : R2} (h : ta σ H fun x H1 => tb σ H1 fun y H2 => r x y H2 Q) : tOp r ta tb σ H Q := h
theorem r_I0 {g : Int → Int → V} {i j : Int} (k : Q (g i j) H) : rI0 g (.int i) (.int j) H Q := ⟨i, j, rfl, rfl, k⟩
theorem r_I {c : Int → Int → Prop} {g : Int → Int → V} {i j : Int} (hc : c i j) (k : Q (g i j) H) : rI c g (.int i) (.int j) H Q := ⟨i, j, rfl, rfl, hc, k⟩
theorem r_eq (hs : scal x y = true) (k : Q (.bl (decide (x = y))) H) : rEq x y H Q := ⟨hs, k⟩
theorem r_ne (hs : scal x y = true) (k : Q (.bl (!decide (x = y))) H) : rNe x y H Q := ⟨hs, k⟩
theorem r_nil {R : List V → Hp → Prop} (k : R [] H) : tNil σ H R := k
theorem r_cons {tr : TA} {R : List V → Hp → Prop} (h : ta σ H fun x H1 => tr σ H1 fun xs H2 => R (x :: xs) H2) : tCons ta tr σ H R := h
theorem r_cb {r : List V → Hp → VK → Prop} {tr : TA} (h : tr σ H fun vs H1 => r vs H1 Q) : tCB r tr σ H Q := h
theorem r_call {sp : Sp} {E : L2.St → XK} {tr : TA} (h : tr σ H fun vs H1 => sp vs H1 Q (E σ)) : tCallS sp E tr σ H Q := h
theorem r_test {R : Bool → Hp → Prop} (h : te σ H fun x H' => ∃ k, x = .bl k ∧ R k H') : tTest te σ H R := h
theorem r_tB {R : Bool → Hp → Prop} (h : te σ H fun x H' => ∃ k, x = .bl k ∧ R k H') : tB te σ H R := h
theorem r_bl {b : Bool} {R : Bool → Hp → Prop} (k : R b H) : ∃ c, V.bl b = .bl c ∧ R c H := ⟨b, rfl, k⟩
theorem r_not {R : Bool → Hp → Prop} (h : t σ H fun c H1 => R (!c) H1) : tNot t σ H R := h
theorem r_and {R : Bool → Hp → Prop} (h : t σ H fun c H1 => if c = true then u σ H1 R else R false H1) : tAnd t u σ H R := h
theorem r_or {R : Bool → Hp → Prop} (h : t σ H fun c H1 => if c = true then R true H1 else u σ H1 R) : tOr t u σ H R := h
theorem r_if (h : t σ H fun c H1 => if c = true then ta σ H1 Q else tb σ H1 Q) : tIf t ta tb σ H Q := h
theorem r_isa {T : String} (h : te σ H fun x H1 => ∃ d, Dp K H1 x d ∧ Q (.bl (isaD T d)) H1) : tIsa K T te σ H Q := h
theorem r_tup {tr : TA} (h : tr σ H fun xs H1 => xs.length ≤ sizeLine ∧ ∀ p, H1 p = none → Q (.ref p) (upd H1 p (.tup xs))) : tTup tr σ H Q := h
theorem r_lst {tr : TA} (h : tr σ H fun xs H1 => xs.length ≤ sizeLine ∧ ∀ p, H1 p = none → Q (.ref p) (upd H1 p (.lst xs))) : tLst tr σ H Q := h
/-- what a for is to give, over an iterator J -/
def ForB (J : It) (g : TG) (tb : TS) (D : Ends) (σ : L2.St) (H1 : Hp) : Prop := ∃ W : Nat → Nat → L2.St → Hp → Prop, (∃ m, W 0 m σ H1) ∧ ∀ i m σ H, W i m σ H →
  (J.stop i H ∧ D.nx σ H) ∨ (J.go i H ∧ ∃ N : L2.St → Hp → Prop, (∀ σ' H', N σ' H' → ∃ m', m' < m ∧ W (i + 1) m' σ' H') ∧ ∀ x H', J.yld i H x H' → g x σ H' fun σ2 H2 => tb { D with nx := N, ct := N, bk := D.nx } σ2 H2)
theorem r_for {wi : TI} {g : TG} {tb : TS} (h : wi σ H fun J H1 => ForB J g tb D σ H1) : tFor wi g tb D σ H := h
theorem forW {J : It} {n : Nat} {G : Hp → Prop} {Y : Nat → Hp → V → Hp → Prop} {g : TG} {tb : TS} (w : Walk J n G Y) (Pv : Nat → L2.St → Hp → Prop) (h0 : Pv 0 σ H) (hG : ∀ i σ H, i ≤ n → Pv i σ H → G H)
    (hs : ∀ i x σ H H', i < n → Pv i σ H → Y i H x H' → g x σ H' fun σ2 H2 => tb { D with nx := Pv (i + 1), ct := Pv (i + 1), bk := D.nx } σ2 H2) (hd : ∀ σ H, Pv n σ H → D.nx σ H) : ForB J g tb D σ H := for_it w Pv h0 hG hs hd
theorem r_iTup {R : It → Hp → Prop} (h : te σ H fun x H1 => ∃ a, x = .ref a ∧ (∃ xs, SqT K H1 a xs) ∧ R (Itt K a) H1) : iTup K te σ H R := h
theorem r_iList {R : It → Hp → Prop} (h : te σ H fun x H1 => ∃ a, x = .ref a ∧ (∃ xs, SqL K H1 a xs) ∧ R (Itl K a) H1) : iList K te σ H R := h
theorem r_rng1 {t : TA} {R : It → Hp → Prop} (h : t σ H fun vs H1 => ∃ j : Int, vs = [.int j] ∧ -(2 ^ 62) ≤ j ∧ j < 2 ^ 62 ∧ R (Itr 0 j.toNat) H1) : iRng1 t σ H R := h
theorem r_rng2 {t : TA} {R : It → Hp → Prop} (h : t σ H fun vs H1 => ∃ i j : Int, vs = [.int i, .int j] ∧ (-(2 ^ 62) ≤ i ∧ i < 2 ^ 62 ∧ -(2 ^ 62) ≤ j ∧ j < 2 ^ 62) ∧ R (Itr i (j - i).toNat) H1) : iRng2 t σ H R := h
theorem r_zipA {t : TA} {R : It → Hp → Prop} (h : t σ H fun vs H1 => ∃ a b xs ys, vs = [.ref a, .ref b] ∧ ((SqL K H1 a xs ∧ SqL K H1 b ys ∧ R (Itz K a b) H1) ∨ (SqT K H1 a xs ∧ SqT K H1 b ys ∧ R (RZ.ItzT K a b) H1))) : RZ.iZipA K t σ H R := h
theorem r_enT {t : TA} {R : It → Hp → Prop} (h : t σ H fun vs H1 => ∃ a xs, vs = [.ref a] ∧ SqT K H1 a xs ∧ R (IteT K a) H1) : iEnumT K t σ H R := h
theorem r_enL {t : TA} {R : It → Hp → Prop} (h : t σ H fun vs H1 => ∃ a xs, vs = [.ref a] ∧ SqL K H1 a xs ∧ R (Ite K a) H1) : iEnum K t σ H R := h
theorem r_revA {R : It → Hp → Prop} (h : te σ H fun v H1 => ∃ (a : Addr) (xs : List V), v = .ref a ∧ ((SqL K H1 a xs ∧ R (Itv K a xs.length) H1) ∨ (SqT K H1 a xs ∧ R (RT.ItvT K a xs.length) H1))) : RT.iRevA K te σ H R := h
theorem r_augE {i : Nat} {ti : TIp} (h : ∃ x, σ[i]? = some (some x) ∧ te σ H fun y H1 => ti x y H1 fun z H2 => D.nx (σ.set i (some z)) H2) : tAug i te ti D σ H := h
theorem r_ipI {f : Int → Int → Int} {i j : Int} (k : Q (.int (f i j)) H) : ipI f (.int i) (.int j) H Q := ⟨i, j, rfl, rfl, k⟩
theorem r_rAdd {i j : Int} (k : Q (.int (i + j)) H) : rAdd (.int i) (.int j) H Q := ⟨i, j, rfl, rfl, k⟩
theorem r_bm {T : String} {r : V → List V → Hp → VK → Prop} {t : TA} (h : te σ H fun x H1 => tyV K T x H1 ∧ t σ H1 fun xs H2 => r x xs H2 Q) : tBM K T r te t σ H Q := h
theorem r_bm0 {T : String} {r : V → List V → Hp → VK → Prop} (h : te σ H fun x H1 => tyV K T x H1 ∧ r x [] H1 Q) : tBM0 K T r te σ H Q := h
theorem r_gn {i : Nat} {R : L2.St → Hp → Prop} (k : R (σ.set i (some v)) H) : gName i v σ H R := k
theorem r_asgG {g : TG} (h : te σ H fun x H1 => g x σ H1 D.nx) : tAsg te g D σ H := h
theorem r_sl {r : V → Option Int → Option Int → Hp → VK → Prop} {tl th : TO} (h : te σ H fun x H1 => tl σ H1 fun l H2 => th σ H2 fun u H3 => r x l u H3 Q) : L2.tSl r te tl th σ H Q := h
theorem r_nop {R : Option Int → Hp → Prop} (k : R none H) : tNoPart σ H R := k
theorem r_part {R : Option Int → Hp → Prop} (h : te σ H fun x H1 => ∃ i, x = .int i ∧ R (some i) H1) : tPart te σ H R := h
theorem r_int {R : Int → Prop} {i : Int} (k : R i) : ∃ j, V.int i = .int j ∧ R j := ⟨i, rfl, k⟩
theorem r_bll {R : Bool → Prop} {b : Bool} (k : R b) : ∃ j, V.bl b = .bl j ∧ R j := ⟨b, rfl, k⟩
theorem r_un {r : V → Hp → VK → Prop} (h : te σ H fun x H1 => r x H1 Q) : tUn r te σ H Q := h
theorem r_rU {f : Int → V} {i : Int} (k : Q (f i) H) : rU f (.int i) H Q := ⟨i, rfl, k⟩
theorem r_chain {r r' : R2} {tc : TE} (h : ta σ H fun x H1 => tb σ H1 fun y H2 => r x y H2 fun z H3 => ∃ k, z = .bl k ∧ (if k = true then tc σ H3 fun w' H4 => r' y w' H4 Q else Q (.bl false) H3)) : tChain r r' ta tb tc σ H Q := h
theorem r_revL {K : PySem.W.Frag} {p : Addr} {xs : List V} (hs : SqL K H p xs) (k : ∀ q, H q = none → Q (.ref q) (upd H q (.lst xs.reverse))) (h : Val te σ H (.ref p)) : tRevL K te σ H Q := h _ ⟨p, xs, rfl, hs, k⟩
/-- a pair's two names -/
theorem r_pair {T : Addr} {i j : Nat} {x y : V} {R : L2.St → Hp → Prop} (hs : SqT K H T [x, y]) (k : R ((σ.set i (some x)).set j (some y)) H) : gTup K 2 (gCons (gName i) (gCons (gName j) gNil)) (.ref T) σ H R :=
  ⟨T, [x, y], rfl, hs, rfl, x, [y], rfl, y, [], rfl, rfl, k⟩
theorem small_line {n : Nat} (h : n ≤ 1000000) : n < sizeLine := by
  have : (1000000 : Nat) < sizeLine := by decide
  omega
theorem r_append {l : Addr} {xs : List V} (h : H l = some (.lst xs)) (hz : xs.length ≤ 1000000) (k : Q .non (upd H l (.lst (xs ++ [v])))) : rAppend (.ref l) [v] H Q := ⟨l, xs, v, rfl, rfl, h, small_line hz, k⟩
theorem r_fldE {f : Str} (h : ta σ H fun x H1 => ∃ a C dx fs v, x = .ref a ∧ H1 a = some (.ins C dx fs) ∧ Cls K C ∧ NoAttr K C f ∧ fs.lookup f = some v ∧ Q v H1) : tFld K ta f σ H Q := h
theorem r_sfld {f : Str} (h : tb σ H fun y H1 => ta σ H1 fun x H2 => ∃ a C dx fs, x = .ref a ∧ H2 a = some (.ins C dx fs) ∧ Cls K C ∧ NoAttr K C f ∧ fs.length < 1000 ∧ D.nx σ (upd H2 a (.ins C dx (putF f y fs)))) : sFld K ta tb f D σ H := h
theorem r_sfldaug {f : Str} {rd : V → V → Hp → VK → Prop} (h : ta σ H fun x H1 => ∃ a C dx fs v, x = .ref a ∧ H1 a = some (.ins C dx fs) ∧ Cls K C ∧ NoAttr K C f ∧ fs.lookup f = some v ∧
    tb σ H1 fun y H2 => rd v y H2 fun z H3 => ∃ dx' fs', H3 a = some (.ins C dx' fs') ∧ fs'.length < 1000 ∧ D.nx σ (upd H3 a (.ins C dx' (putF f z fs')))) : sFldAug K ta tb rd f D σ H := h
theorem r_lstRg {t : L2.St → Hp → (Int → Int → Hp → Prop) → Prop} (h : t σ H fun a b H1 => RgOk a b ∧ ∀ q, H1 q = none → Q (.ref q) (upd H1 q (.lst (rgV a b)))) : tLstRg t σ H Q := h
theorem r_rg1 {R : Int → Int → Hp → Prop} (h : te σ H fun x H1 => ∃ n, x = .int n ∧ R 0 n H1) : tRg1 te σ H R := h
theorem r_dget (h : ta σ H fun x H1 => tb σ H1 fun y H2 => ∃ a v, x = .ref a ∧ DGet H2 a y (some v) ∧ Q v H2) : tDGet ta tb σ H Q := h
theorem r_dput {tv : TE} (h : tv σ H fun v H1 => ta σ H1 fun x H2 => tb σ H2 fun y H3 => ∃ a H4, x = .ref a ∧ DPut H3 a y v H4 ∧ D.nx σ H4) : sDPut ta tb tv D σ H := h
theorem r_disp {trs : List (TE × TE)} (h : ∀ p, H p = none → tPairs trs σ (upd H p (.dK [])) fun ps H2 => H2 p = some (.dK []) ∧ ∃ kvs : List (Key × V), ps = kvs.map (fun kv => (kV kv.1, kv.2)) ∧ kvs.length ≤ 15 ∧ Q (.ref p) (upd H2 p (.dK (mergeK [] kvs)))) : tDisp trs σ H Q := h
theorem r_gsub {t : TSet} {R : L2.St → Hp → Prop} (h : ta σ H fun o H1 => tb σ H1 fun i H2 => t o i v H2 fun H3 => R σ H3) : gSub ta tb t v σ H R := h
theorem r_pairC {trs : List (TE × TE)} {R : List (V × V) → Hp → Prop} (h : ta σ H fun x H1 => tb σ H1 fun y H2 => tPairs trs σ H2 fun ps H3 => R ((x, y) :: ps) H3) : tPairs ((ta, tb) :: trs) σ H R := h
theorem r_pairN {R : List (V × V) → Hp → Prop} (k : R [] H) : tPairs [] σ H R := k
theorem r_while {c : TT} {tb : TS} (W : Nat → L2.St → Hp → Prop) (m0 : Nat) (h0 : W m0 σ H)
    (hs : ∀ m σ H, W m σ H → c σ H fun b H1 => if b = true then ∃ N : L2.St → Hp → Prop, (∀ σ' H', N σ' H' → ∃ m', m' < m ∧ W m' σ' H') ∧ tb { D with nx := N, ct := N, bk := D.nx } σ H1 else D.nx σ H1) : tWhile c tb D σ H := ⟨W, ⟨m0, h0⟩, hs⟩
theorem r_andV (h : ta σ H fun x H1 => ∃ c, x = .bl c ∧ if c = true then tb σ H1 Q else Q (.bl false) H1) : tAndV ta tb σ H Q := h
theorem r_orV (h : ta σ H fun x H1 => ∃ c, x = .bl c ∧ if c = true then Q (.bl true) H1 else tb σ H1 Q) : tOrV ta tb σ H Q := h
theorem r_notV (h : ta σ H fun x H1 => ∃ c, x = .bl c ∧ Q (.bl (!c)) H1) : tNotV ta σ H Q := h
theorem r_triple {T : Addr} {i j l : Nat} {x y z : V} {R : L2.St → Hp → Prop} (hs : SqT K H T [x, y, z]) (k : R (((σ.set i (some x)).set j (some y)).set l (some z)) H) : gTup K 3 (gCons (gName i) (gCons (gName j) (gCons (gName l) gNil))) (.ref T) σ H R :=
  ⟨T, [x, y, z], rfl, hs, rfl, x, [y, z], rfl, y, [z], rfl, z, [], rfl, rfl, k⟩
theorem r_meth {C : Addr} {m : Str} {sp : Sp} {E : L2.St → XK} {t : TA} (h : ta σ H fun x H1 => ∃ a dx fs, x = .ref a ∧ H1 a = some (.ins C dx fs) ∧ fs.lookup m = none ∧ t σ H1 fun vs H2 => sp (x :: vs) H2 Q (E σ)) : tMethS C m sp E ta t σ H Q := h
theorem r_make {C : Addr} {sp : Sp} {E : L2.St → XK} {t : TA} (h : t σ H fun vs H1 => ∀ x dx, H1 x = none → H1 dx = none → dx ≠ x → sp (.ref x :: vs) (upd (upd H1 dx (.own x)) x (.ins C dx [])) (fun v H2 => v = .non ∧ Q (.ref x) H2) (E σ)) : tMakeS C sp E t σ H Q := h
theorem r_ixT {p : Addr} {xs : List V} {i : Int} (h : SqT K H p xs) (ha : atI xs i = some v) (k : Q v H) : rIxT K (.ref p) (.int i) H Q := ⟨p, xs, i, v, rfl, rfl, h, ha, k⟩
theorem r_ixL {p : Addr} {xs : List V} {i : Int} (h : SqL K H p xs) (ha : atI xs i = some v) (k : Q v H) : rIxL K (.ref p) (.int i) H Q := ⟨p, xs, i, v, rfl, rfl, h, ha, k⟩
theorem r_fld {f : Str} {a C dx : Addr} {fs : List (Str × V)} (ho : H a = some (.ins C dx fs)) (hc : Cls K C) (hn : NoAttr K C f) (hl : fs.lookup f = some v) (k : Q v H) (h : Val ta σ H (.ref a)) : tFld K ta f σ H Q := h _ ⟨a, C, dx, fs, v, rfl, ho, hc, hn, hl, k⟩
theorem r_lenT {a : Addr} {xs : List V} (h : SqT K H a xs) (k : Q (.int (xs.length : Int)) H) : ∃ p ys, [V.ref a] = [.ref p] ∧ (SqL K H p ys ∨ SqT K H p ys) ∧ Q (.int (ys.length : Int)) H := ⟨a, xs, rfl, .inr h, k⟩
theorem at_ints {r : List Int} {k : Nat} (h : k < r.length) : atI (r.map V.int) (k : Int) = some (.int (r.getD k 0)) := by
  refine atI_nat ?_
  rw [List.getElem?_map, List.getElem?_eq_getElem h, List.getD_eq_getElem?_getD, List.getElem?_eq_getElem h]
  rfl
end

/-! ### maps and filters as comprehensions -/
section
variable {α : Type} {K : PySem.W.Frag} {σ : L2.St} {H : Hp} {Q : VK} {tl te : TE} {tt : TT} {j : Nat} {vs : List Nat} {a : Addr} {xs : List V} {zs : List α} (g : α → V) (p : α → Bool)
theorem lcT_map (h : Val tl σ H (.ref a)) (hx : SqT K H a xs) (hl : xs.length = zs.length) (hn : xs.length ≤ 1000000) (hw : ∀ x, wipe ((wipe σ vs).set j (some x)) vs = wipe σ vs)
    (ht : ∀ (i : Nat) (x : V) (z : α), xs[i]? = some x → zs[i]? = some z → ∀ H', Ex H H' → ∀ R : VK, (∀ H2, Ex H' H2 → R (g z) H2) → te ((wipe σ vs).set j (some x)) H' R)
    (k : ∀ D H', H D = none → Ex H H' → H' D = some (.lst (zs.map g)) → Q (.ref D) H') : tLc (iTup K tl) (gName j) tYes te vs σ H Q := by
  refine lcT (fun _ => true) _ _ h hx hn (hl ▸ acc_map zs g) hw (fun i x e => ?_) fun D H' hD e h1 => k D H' hD e ?_
  · have hi : i < zs.length := by
      rw [← hl]
      exact (List.getElem?_eq_some_iff.mp e).1
    refine yes_turn fun H' e2 R q => ht i x _ e (List.getElem?_eq_getElem hi) H' e2 R fun H2 e3 => ?_
    have z := q H2 e3
    rw [List.getElem?_eq_getElem hi] at z
    exact z
  · rw [hl] at h1
    rw [h1, List.take_length]
theorem lcT_fil (h : Val tl σ H (.ref a)) (hx : SqT K H a xs) (hl : xs.length = zs.length) (hn : xs.length ≤ 1000000) (hw : ∀ x, wipe ((wipe σ vs).set j (some x)) vs = wipe σ vs)
    (hc : ∀ (i : Nat) (x : V) (z : α), xs[i]? = some x → zs[i]? = some z → ∀ H', Ex H H' → ∀ R : Bool → Hp → Prop, (∀ H2, Ex H' H2 → R (p z) H2) → tt ((wipe σ vs).set j (some x)) H' R)
    (ht : ∀ (i : Nat) (x : V) (z : α), xs[i]? = some x → zs[i]? = some z → p z = true → ∀ H', Ex H H' → ∀ R : VK, (∀ H2, Ex H' H2 → R (g z) H2) → te ((wipe σ vs).set j (some x)) H' R)
    (k : ∀ D H', H D = none → Ex H H' → H' D = some (.lst ((zs.filter p).map g)) → Q (.ref D) H') : tLc (iTup K tl) (gName j) tt te vs σ H Q := by
  refine lcT _ _ _ h hx hn (hl ▸ acc_filter zs p g) hw (fun i x e => ?_) fun D H' hD e h1 => k D H' hD e ?_
  · have hi : i < zs.length := by
      rw [← hl]
      exact (List.getElem?_eq_some_iff.mp e).1
    have hz := List.getElem?_eq_getElem hi
    refine ⟨fun H' e2 R q => hc i x _ e hz H' e2 R fun H2 e3 => ?_, fun hb H' e2 R q => ht i x _ e hz ?_ H' e2 R fun H2 e3 => ?_⟩
    · have z := q H2 e3
      rw [hz] at z
      exact z
    · rw [hz] at hb
      exact hb
    · have z := q H2 e3
      rw [hz] at z
      exact z
  · rw [hl] at h1
    rw [h1, List.take_length]
theorem lcL_map (h : Val tl σ H (.ref a)) (hx : SqL K H a xs) (hl : xs.length = zs.length) (hn : xs.length ≤ 1000000) (hw : ∀ x, wipe ((wipe σ vs).set j (some x)) vs = wipe σ vs)
    (ht : ∀ (i : Nat) (x : V) (z : α), xs[i]? = some x → zs[i]? = some z → ∀ H', Ex H H' → ∀ R : VK, (∀ H2, Ex H' H2 → R (g z) H2) → te ((wipe σ vs).set j (some x)) H' R)
    (k : ∀ D H', H D = none → Ex H H' → H' D = some (.lst (zs.map g)) → Q (.ref D) H') : tLc (iList K tl) (gName j) tYes te vs σ H Q := by
  refine lcL (fun _ => true) _ _ h hx hn (hl ▸ acc_map zs g) hw (fun i x e => ?_) fun D H' hD e h1 => k D H' hD e ?_
  · have hi : i < zs.length := by
      rw [← hl]
      exact (List.getElem?_eq_some_iff.mp e).1
    refine yes_turn fun H' e2 R q => ht i x _ e (List.getElem?_eq_getElem hi) H' e2 R fun H2 e3 => ?_
    have z := q H2 e3
    rw [List.getElem?_eq_getElem hi] at z
    exact z
  · rw [hl] at h1
    rw [h1, List.take_length]
theorem lcL_fil (h : Val tl σ H (.ref a)) (hx : SqL K H a xs) (hl : xs.length = zs.length) (hn : xs.length ≤ 1000000) (hw : ∀ x, wipe ((wipe σ vs).set j (some x)) vs = wipe σ vs)
    (hc : ∀ (i : Nat) (x : V) (z : α), xs[i]? = some x → zs[i]? = some z → ∀ H', Ex H H' → ∀ R : Bool → Hp → Prop, (∀ H2, Ex H' H2 → R (p z) H2) → tt ((wipe σ vs).set j (some x)) H' R)
    (ht : ∀ (i : Nat) (x : V) (z : α), xs[i]? = some x → zs[i]? = some z → p z = true → ∀ H', Ex H H' → ∀ R : VK, (∀ H2, Ex H' H2 → R (g z) H2) → te ((wipe σ vs).set j (some x)) H' R)
    (k : ∀ D H', H D = none → Ex H H' → H' D = some (.lst ((zs.filter p).map g)) → Q (.ref D) H') : tLc (iList K tl) (gName j) tt te vs σ H Q := by
  refine lcL _ _ _ h hx hn (hl ▸ acc_filter zs p g) hw (fun i x e => ?_) fun D H' hD e h1 => k D H' hD e ?_
  · have hi : i < zs.length := by
      rw [← hl]
      exact (List.getElem?_eq_some_iff.mp e).1
    have hz := List.getElem?_eq_getElem hi
    refine ⟨fun H' e2 R q => hc i x _ e hz H' e2 R fun H2 e3 => ?_, fun hb H' e2 R q => ht i x _ e hz ?_ H' e2 R fun H2 e3 => ?_⟩
    · have z := q H2 e3
      rw [hz] at z
      exact z
    · rw [hz] at hb
      exact hb
    · have z := q H2 e3
      rw [hz] at z
      exact z
  · rw [hl] at h1
    rw [h1, List.take_length]
theorem lcR_map {n : Nat} (g : Nat → V) (hn : n ≤ 1000000) (h : Val tl σ H (.int (n : Int))) (hw : ∀ x, wipe ((wipe σ vs).set j (some x)) vs = wipe σ vs)
    (ht : ∀ i, i < n → ∀ H', Ex H H' → ∀ R : VK, (∀ H2, Ex H' H2 → R (g i) H2) → te ((wipe σ vs).set j (some (.int (i : Int)))) H' R)
    (k : ∀ D H', H D = none → Ex H H' → H' D = some (.lst ((List.range n).map g)) → Q (.ref D) H') : tLc (iRng1 (tCons tl tNil)) (gName j) tYes te vs σ H Q := by
  have A := acc_map (List.range n) g
  rw [List.length_range] at A
  refine lcR (fun _ => true) _ _ hn h A hw (fun i hi => yes_turn fun H' e2 R q => ht i hi H' e2 R fun H2 e3 => ?_) fun D H' hD e h1 => k D H' hD e ?_
  · have z := q H2 e3
    rw [List.getElem?_range hi] at z
    exact z
  · rw [h1, List.take_of_length_le (by rw [List.length_range]; exact Nat.le_refl n)]
theorem lcR_fil {n : Nat} (g : Nat → V) (p : Nat → Bool) (hn : n ≤ 1000000) (h : Val tl σ H (.int (n : Int))) (hw : ∀ x, wipe ((wipe σ vs).set j (some x)) vs = wipe σ vs)
    (hc : ∀ i, i < n → ∀ H', Ex H H' → ∀ R : Bool → Hp → Prop, (∀ H2, Ex H' H2 → R (p i) H2) → tt ((wipe σ vs).set j (some (.int (i : Int)))) H' R)
    (ht : ∀ i, i < n → p i = true → ∀ H', Ex H H' → ∀ R : VK, (∀ H2, Ex H' H2 → R (g i) H2) → te ((wipe σ vs).set j (some (.int (i : Int)))) H' R)
    (k : ∀ D H', H D = none → Ex H H' → H' D = some (.lst (((List.range n).filter p).map g)) → Q (.ref D) H') : tLc (iRng1 (tCons tl tNil)) (gName j) tt te vs σ H Q := by
  have A := acc_filter (List.range n) p g
  rw [List.length_range] at A
  refine lcR _ _ _ hn h A hw (fun i hi => ⟨fun H' e2 R q => hc i hi H' e2 R fun H2 e3 => ?_, fun hb H' e2 R q => ht i hi ?_ H' e2 R fun H2 e3 => ?_⟩) fun D H' hD e h1 => k D H' hD e ?_
  · have z := q H2 e3
    rw [List.getElem?_range hi] at z
    exact z
  · rw [List.getElem?_range hi] at hb
    exact hb
  · have z := q H2 e3
    rw [List.getElem?_range hi] at z
    exact z
  · rw [h1, List.take_of_length_le (by rw [List.length_range]; exact Nat.le_refl n)]
theorem lcZ_map {ta : TA} {i1 i2 : Nat} {b : Addr} {ys : List V} (h : ∀ R : List V → Hp → Prop, R [.ref a, .ref b] H → ta σ H R) (hx : SqT K H a xs) (hy : SqT K H b ys) (he : xs.length = ys.length) (hl : xs.length = zs.length) (hn : xs.length ≤ 1000000)
    (hw : ∀ x y, wipe (((wipe σ vs).set i1 (some x)).set i2 (some y)) vs = wipe σ vs)
    (ht : ∀ (i : Nat) (x y : V) (z : α), xs[i]? = some x → ys[i]? = some y → zs[i]? = some z → ∀ H', Ex H H' → ∀ R : VK, (∀ H2, Ex H' H2 → R (g z) H2) → te (((wipe σ vs).set i1 (some x)).set i2 (some y)) H' R)
    (k : ∀ D H', H D = none → Ex H H' → H' D = some (.lst (zs.map g)) → Q (.ref D) H') : tLc (RZ.iZipA K ta) (gTup K 2 (gCons (gName i1) (gCons (gName i2) gNil))) tYes te vs σ H Q := by
  refine lcZ (fun _ => true) _ _ h hx hy he hn (hl ▸ acc_map zs g) hw (fun i x y e e' => ?_) fun D H' hD e h1 => k D H' hD e ?_
  · have hi : i < zs.length := by
      rw [← hl]
      exact (List.getElem?_eq_some_iff.mp e).1
    refine yes_turn fun H' e2 R q => ht i x y _ e e' (List.getElem?_eq_getElem hi) H' e2 R fun H2 e3 => ?_
    have z := q H2 e3
    rw [List.getElem?_eq_getElem hi] at z
    exact z
  · rw [hl] at h1
    rw [h1, List.take_length]
end
/-! ### the same rules, the written part named -/
section
variable {X : Cx} {tg e o a b : Expr} {es : List Expr} {te to ta : TE} {t : TA} {p pos apos cpos tpos : Pos} {elts : List Expr} {kk : Nat} {f name : Str}
theorem ixT (K : PySem.W.Frag) (hK : X.K = K := by rfl) : IxR X (rIxT K) := hK ▸ ix_tup
theorem ixL (K : PySem.W.Frag) (hK : X.K = K := by rfl) : IxR X (rIxL K) := hK ▸ ix_list
theorem cLen (K : PySem.W.Frag) (hK : X.K = K := by rfl) : CallR X (.builtin "len") (fun xs H Q => ∃ p ys, xs = [.ref p] ∧ (SqL K H p ys ∨ SqT K H p ys) ∧ Q (.int ys.length) H) := hK ▸ call_len_seq
theorem cMin (K : PySem.W.Frag) (hc : X.calm = true) (hK : X.K = K := by rfl) : CallR X (.builtin "min") (rMinA K) := hK ▸ cr_minA hc
theorem cMax (K : PySem.W.Frag) (hc : X.calm = true) (hK : X.K = K := by rfl) : CallR X (.builtin "max") (rMaxA K) := hK ▸ cr_maxA hc
theorem cAll (K : PySem.W.Frag) (hc : X.calm = true) (hK : X.K = K := by rfl) : CallR X (.builtin "all") (rAll K) := hK ▸ cr_all hc
theorem cAny (K : PySem.W.Frag) (hc : X.calm = true) (hK : X.K = K := by rfl) : CallR X (.builtin "any") (rAny K) := hK ▸ cr_any hc
theorem cSum (K : PySem.W.Frag) (hc : X.calm = true) (hK : X.K = K := by rfl) : CallR X (.builtin "sum") (rSum K) := hK ▸ cr_sum hc
theorem cRepr (K : PySem.W.Frag) (hg : X.A.guards = some []) (hu : X.A.units + 64 < cLine) (hK : X.K = K := by rfl) : CallR X (.builtin "repr") (rRepD K) := hK ▸ call_reprD hg hu
theorem cList (K : PySem.W.Frag) (hK : X.K = K := by rfl) : CallR X (.type "list") (fun xs H Q => ∃ p ys, xs = [.ref p] ∧ (SqL K H p ys ∨ SqT K H p ys) ∧ ∀ l, H l = none → Q (.ref l) (upd H l (.lst ys))) := hK ▸ call_list_of
theorem cTup (K : PySem.W.Frag) (hK : X.K = K := by rfl) : CallR X (.type "tuple") (fun xs H Q => ∃ p ys, xs = [.ref p] ∧ ((SqL K H p ys ∧ ∀ l, H l = none → Q (.ref l) (upd H l (.tup ys))) ∨ (SqT K H p ys ∧ Q (.ref p) H))) := hK ▸ call_tuple_of
theorem cSet (K : PySem.W.Frag) (hc : X.calm = true) (hK : X.K = K := by rfl) : CallR X (.type "set") (rSetT K X.w) := hK ▸ cr_setT hc
theorem slT (K : PySem.W.Frag) (hK : X.K = K := by rfl) : SlR X (rSlTA K) := hK ▸ sl_tupA
theorem slL (K : PySem.W.Frag) (hK : X.K = K := by rfl) : SlR X (rSlL K) := hK ▸ sl_list
theorem inK (K : PySem.W.Frag) (hK : X.K = K := by rfl) : OpR X (compareOp .In) (rIn K false) := hK ▸ op_in_seq
theorem niK (K : PySem.W.Frag) (hK : X.K = K := by rfl) : OpR X (compareOp .NotIn) (rIn K true) := hK ▸ op_notIn_seq
theorem eqK (K : PySem.W.Frag) (hu : X.A.units + 64 < cLine) (hK : X.K = K := by rfl) : OpR X (compareOp .Eq) (rEqD K) := hK ▸ op_eqD hu
theorem neK (K : PySem.W.Frag) (hu : X.A.units + 64 < cLine) (hK : X.K = K := by rfl) : OpR X (compareOp .NotEq) (rNeD K) := hK ▸ op_neD hu
theorem ctT (K : PySem.W.Frag) (hK : X.K = K := by rfl) : OpR X (binaryOp .Add) (rCatT K) := hK ▸ op_catT
theorem mulT (K : PySem.W.Frag) (hK : X.K = K := by rfl) : OpR X (binaryOp .Mult) (rTupMul K) := hK ▸ op_tupMul
theorem mIndex (K : PySem.W.Frag) (hK : X.K = K := by rfl) : MtR X "list.index" (rIndex K) := hK ▸ mt_index
theorem piT (K : PySem.W.Frag) (h : PE X e te) (hK : X.K = K := by rfl) : PI X tg e (iTup K te) := hK ▸ pi_tup h
theorem piL (K : PySem.W.Frag) (h : PE X e te) (hK : X.K = K := by rfl) : PI X tg e (iList K te) := hK ▸ pi_list h
theorem fldK (K : PySem.W.Frag) (he : PE X e te) (hb : attributeBase e f X.env (eval e X.env) = eval e X.env) (hK : X.K = K := by rfl) : PE X (.Attribute e f pos) (tFld K te f) := hK ▸ pe_fld he hb
theorem gtupK (K : PySem.W.Frag) {k n : Nat} {ts : List Expr} {u : TGs} (hc : X.calm = true) (h : PGs X ts u) (hn : (assignEach ts X.env).length = n := by rfl) (hst : (assignEach ts X.env).findIdx? (·.1) = none := by rfl) (hK : X.K = K := by rfl) : PG X (.Tuple ts k pos) (gTup K n u) := hK ▸ pg_tup hc h hn hst
theorem isaK2 (K : PySem.W.Frag) {T : String} (h : PE X e (tIsa X.K T te)) (hK : X.K = K := by rfl) : PE X e (tIsa K T te) := hK ▸ h
theorem bmK (K : PySem.W.Frag) {T : String} {r : V → List V → Hp → VK → Prop} (h : PE X e (tBM X.K T r to t)) (hK : X.K = K := by rfl) : PE X e (tBM K T r to t) := hK ▸ h
theorem bm0K (K : PySem.W.Frag) {T : String} {r : V → List V → Hp → VK → Prop} (h : PE X e (tBM0 X.K T r to)) (hK : X.K = K := by rfl) : PE X e (tBM0 K T r to) := hK ▸ h
theorem revLK (K : PySem.W.Frag) {k : Nat} {p1 p2 p3 : Pos} (he : PE X e te) (hK : X.K = K := by rfl) : PE X (.Subscript e (.Slice none none (some (.UnaryOp .USub (.Constant (.int 1) k p1) p2)) p3) pos) (tRevL K te) := hK ▸ pe_revL he
end
end Ts
/-! TsKp: comprehensions whose elements change the heap at some places. -/
namespace Ts
open PySem PySem.Spec PyProof.Rows L2
section
variable {K : PySem.W.Frag} {σ : L2.St} {H : Hp} {Q : VK} {tl te : TE} {j : Nat} {vs : List Nat} {a : Addr} {xs : List V} {L : List Addr} (I : Hp → Prop) (ok : Nat → V → Prop)
/-- an if both of whose ways lead to the same: what stands there (Pre) -/
theorem r_ifS2 {t : TT} {ta tb : TS} {D : Ends} (Pre : L2.St → Hp → Prop) (tail : ∀ σ' H', Pre σ' H' → D.nx σ' H') (h : (∀ σ' H', Pre σ' H' → D.nx σ' H') → t σ H fun c H1 => if c = true then ta D σ H1 else tb D σ H1) : tIfS t ta tb D σ H := h tail
theorem yes_if {σ2 : L2.St} {H1 : Hp} {A B : Hp → Prop} (h : A H1) : tYes σ2 H1 fun b H3 => if b = true then A H3 else B H3 := by
  show if true = true then A H1 else B H1
  exact iteT h
theorem kp_turn {D : Addr} {i : Nat} {H1 : Hp} {σ2 : L2.St} {us : List V} (hL : ∀ b ∈ L, H b ≠ none) (hI : ∀ H' D o, H D = none → I H' → I (upd H' D o)) (hi : i ≤ 1000000) (hD : H D = none)
    (kp : Kp L H H1) (i1 : I H1) (h1 : H1 D = some (.lst us)) (hl : us.length = i) (ho : ∀ m v, us[m]? = some v → ok m v)
    (ht : ∀ R : VK, (∀ v H2, Kp L H1 H2 → I H2 → ok i v → R v H2) → te σ2 H1 R) :
    tYes σ2 H1 fun b H3 => if b = true then te σ2 H3 fun y H4 => ∃ acc, H4 D = some (.lst acc) ∧ acc.length < sizeLine ∧ (fun (i : Nat) (H' : Hp) => Kp L H H' ∧ I H' ∧ ∃ us, H' D = some (.lst us) ∧ us.length = i ∧ ∀ m v, us[m]? = some v → ok m v) (i + 1) (upd H4 D (.lst (acc ++ [y]))) else (fun (i : Nat) (H' : Hp) => Kp L H H' ∧ I H' ∧ ∃ us, H' D = some (.lst us) ∧ us.length = i ∧ ∀ m v, us[m]? = some v → ok m v) (i + 1) H3 := by
  refine yes_if (ht _ fun v H2 k2 i2 hv => ?_)
  have hDL : D ∉ L := fun m => hL D m hD
  have h2 := k2 D _ h1 hDL
  refine ⟨us, h2, by rw [hl]; exact small_line hi, (kp.trans k2).chg hD, hI _ _ _ hD i2, us ++ [v], upd_same, by simp [hl], fun m u hu => ?_⟩
  by_cases hm : m < us.length
  · rw [List.getElem?_append_left hm] at hu
    exact ho m u hu
  · rw [List.getElem?_append_right (by omega)] at hu
    have z : m - us.length = 0 := by
      apply Classical.byContradiction
      intro q
      rw [List.getElem?_eq_none (by simp; omega)] at hu
      cases hu
    rw [z] at hu
    cases hu
    have : m = i := by omega
    rw [this]
    exact hv
theorem lcRK {n : Nat} (hL : ∀ b ∈ L, H b ≠ none) (hI : ∀ H' D o, H D = none → I H' → I (upd H' D o)) (i0 : I H) (hn : n ≤ 1000000) (h : Val tl σ H (.int (n : Int))) (hw : ∀ x, wipe ((wipe σ vs).set j (some x)) vs = wipe σ vs)
    (ht : ∀ i, i < n → ∀ H', Kp L H H' → I H' → ∀ R : VK, (∀ v H2, Kp L H' H2 → I H2 → ok i v → R v H2) → te ((wipe σ vs).set j (some (.int (i : Int)))) H' R)
    (k : ∀ D H' us, H D = none → Kp L H H' → I H' → H' D = some (.lst us) → us.length = n → (∀ m v, us[m]? = some v → ok m v) → Q (.ref D) H') : tLc (iRng1 (tCons tl tNil)) (gName j) tYes te vs σ H Q := by
  refine h _ ⟨n, rfl, by omega, by omega, fun D hD => ?_⟩
  rw [Int.toNat_natCast]
  refine lc_it (walk_range (lo := 0) (n := n)) (fun i H' => Kp L H H' ∧ I H' ∧ ∃ us, H' D = some (.lst us) ∧ us.length = i ∧ ∀ m v, us[m]? = some v → ok m v) ⟨Kp.new hD, hI _ _ _ hD i0, [], upd_same, rfl, fun m v e => by cases e⟩ (fun _ _ _ _ => trivial) (fun i x H1 H2 hi p y => ?_) (fun H' p => ?_)
  · obtain ⟨kp, i1, us, h1, hl, ho⟩ := p
    obtain ⟨rfl, rfl⟩ := y
    have ez : (0 : Int) + (i : Int) = (i : Int) := Int.zero_add _
    show gName j (V.int ((0 : Int) + (i : Int))) _ _ _
    rw [ez]
    exact ⟨hw _, kp_turn I ok hL hI (by omega) hD kp i1 h1 hl ho (ht i hi _ kp i1)⟩
  · obtain ⟨kp, i1, us, h1, hl, ho⟩ := p
    exact k D H' us hD kp i1 h1 hl ho
theorem lcTK (hL : ∀ b ∈ L, H b ≠ none) (hI : ∀ H' D o, H D = none → I H' → I (upd H' D o)) (i0 : I H) (hn : xs.length ≤ 1000000) (h : Val tl σ H (.ref a)) (hS : ∀ H', Kp L H H' → SqT K H' a xs) (hw : ∀ x, wipe ((wipe σ vs).set j (some x)) vs = wipe σ vs)
    (ht : ∀ i x, xs[i]? = some x → ∀ H', Kp L H H' → I H' → ∀ R : VK, (∀ v H2, Kp L H' H2 → I H2 → ok i v → R v H2) → te ((wipe σ vs).set j (some x)) H' R)
    (k : ∀ D H' us, H D = none → Kp L H H' → I H' → H' D = some (.lst us) → us.length = xs.length → (∀ m v, us[m]? = some v → ok m v) → Q (.ref D) H') : tLc (iTup K tl) (gName j) tYes te vs σ H Q := by
  refine h _ ⟨a, rfl, ⟨xs, hS H (Kp.refl H)⟩, fun D hD => ?_⟩
  refine lc_it (walk_tup (K := K) (a := a) (xs := xs)) (fun i H' => Kp L H H' ∧ I H' ∧ ∃ us, H' D = some (.lst us) ∧ us.length = i ∧ ∀ m v, us[m]? = some v → ok m v) ⟨Kp.new hD, hI _ _ _ hD i0, [], upd_same, rfl, fun m v e => by cases e⟩ (fun i H' _ p => hS H' p.1) (fun i x H1 H2 hi p y => ?_) (fun H' p => ?_)
  · obtain ⟨kp, i1, us, h1, hl, ho⟩ := p
    obtain ⟨rfl, hx⟩ := y
    exact ⟨hw _, kp_turn I ok hL hI (by omega) hD kp i1 h1 hl ho (ht i x hx _ kp i1)⟩
  · obtain ⟨kp, i1, us, h1, hl, ho⟩ := p
    exact k D H' us hD kp i1 h1 hl ho
end
end Ts
/-! TsSort: sorted(a set of ints), up to a thousand members. -/
namespace L2
open PySem PySem.Spec PyProof.Rows
section
variable {P : Program} {w : World} {A : Around} {E : Value → Shared → Prop} {s : Shared} {a : Addr}
theorem sorted_setN {S : Int → Bool} {n : Nat} {Q : Value → Shared → Prop} (R : SetR w s.heap a S n)
    (hh : A.handled = none) (hbig : n ≤ 1000)
    (hQ : ∀ t p (res : Array Value) (c : Nat) (ns : List Int),
      (∀ b o, s.heap.get? b = some o → t.heap.get? b = some o) → t.gens = s.gens → t.os = s.os →
      s.heap.objs.size ≤ p → t.heap.get? p = some (seqObj "list" res c) → IntsAre res.toList ns →
      ns.Pairwise (· < ·) → (∀ k, k ∈ ns ↔ S k = true) → ns.length = n → Q (.ref p) t) :
    wpAny (model P w) A (call (.builtin "sorted") [.ref a]) Q E s := by
  obtain ⟨o, es, ep, t, ho, hex, hd, g, nd, hm, hb, hf, hn, hr, hl⟩ := R
  refine Calls.call_function_entry kind_sorted plain_sorted entry_sorted (args_sorted1 _) ?_
  unfold Builtin.«sorted»
  refine wpAny_bind (m := checkCount "sorted" 1 1 _) (wpAny_pure ?_)
  refine wpAny_bind (collect_set (A := A.in1) hh ⟨o, ho, hex.1, hd⟩ hf hb hr hl
    fun s1 us keep1 hz g1 o1 pm => ?_)
  have hul : us.length = n := by
    rw [pm.length_eq, List.length_map, Array.length_toList]
    exact hn
  have hI : IntsAre us (us.map Builtin.Re.reRawOf) := ints_of us fun v hv => by
    obtain ⟨e, he, q⟩ := List.mem_map.mp (pm.mem_iff.mp hv)
    obtain ⟨k, tk, h1, _⟩ := g e he
    exact ⟨k, tk, by rw [← q, h1]⟩
  have pk : (us.map Builtin.Re.reRawOf).Perm (es.toList.map keyOf) := by
    have q := pm.map Builtin.Re.reRawOf
    rw [List.map_map] at q
    exact q
  have hline : us.length ≤ sizeLine := by
    rw [hul, sizeLine_eq]
    omega
  refine wpAny_bind (wpAny_newList ?_ hline)
  have hoL : (s1.heap.push (seqObj "list" us.toArray 0)).get? s1.heap.objs.size = some (seqObj "list" us.toArray 0) :=
    Heap.get?_push_size _ rfl
  refine wpAny_bind (wpAny_holding (wpAny_call_entry slot_list_sort ⟨_, hoL, rfl⟩ entry_list_sort
    (SrtO.list_sort_ord SrtO.swo_int hoL hline (fun h2 => SrtO.ints_sortable hI h2)
      fun res h1 h2 => ⟨_, rfl, ?_⟩) (args_list_sort _)))
  obtain ⟨a1, a2, a3⟩ := SrtO.ints_out hI h1 h2
  obtain ⟨c, hc⟩ := sortedHeap_at (vs := us) (out := res.toArray) hoL
  have pn : (res.map SrtO.iv).Perm (es.toList.map keyOf) := a2.trans pk
  refine wpAny_pure ⟨_, rfl, hQ _ s1.heap.objs.size res.toArray c _ (fun b u e => ?_) g1 o1 hz hc a1
    (lt_of_le_nodup _ a3 (pn.nodup_iff.mpr nd)) (fun k => by rw [pn.mem_iff, ← hm k]) ?_⟩
  · have q := keep1 b u e
    have hlt := Heap.lt_size q
    show (sortedHeap (s1.heap.push (seqObj "list" us.toArray 0)) s1.heap.objs.size us res.toArray).get? b = some u
    rw [sortedHeap_old (Nat.ne_of_lt hlt) (by rw [size_push']; exact Nat.lt_succ_of_lt hlt)]
    exact Heap.get?_push_of_some _ q
  · rw [pn.length_eq, List.length_map, Array.length_toList]
    exact hn
end
end L2
namespace Ts
open PySem PySem.Spec PyProof.Rows L2
section
variable {X : Cx}
def rSortedSetN (w : World) : List V → Hp → VK → Prop := fun vs H Q => ∃ (a : Addr) (S : Int → Bool) (n : Nat), vs = [V.ref a] ∧ H a = some (SetO w a S n) ∧ n ≤ 1000 ∧
  ∀ (ns : List Int) (p : Addr), ns.Pairwise (· < ·) → (∀ k : Int, k ∈ ns ↔ S k = true) → ns.length = n → H p = none → Q (.ref p) (upd H p (.lst (ns.map V.int)))
theorem cr_sortedSetN (hc : X.calm = true) : CallR X (.builtin "sorted") (rSortedSetN X.w) := by
  intro pins s σ H vs us Q I r h
  obtain ⟨a, S, n, rfl, ha, hbig, q⟩ := h
  rw [Vals.ref1 r]
  refine sorted_setN (setO_get I ha) (I.ok.hd hc) hbig fun t p res c ns k g o hp hg hi hs hm hl => ?_
  have hlen : (ns.map V.int).length ≤ sizeLine := by
    rw [List.length_map, hl, sizeLine_eq]
    omega
  have hn : H p = none := I.hok.fresh hp
  have J : Inv X pins σ (upd H p (.lst (ns.map V.int))) { s with heap := t.heap, gens := t.gens, drawn := t.drawn, toks := t.toks } :=
    I.call (ch := []) (Un.laid k hp hn) (I.hok.laid k hp ⟨hlen, res.toList, c, vals_of_ints hi, hg⟩) (by rw [g]; exact I.bare)
      (fun _ z => nomatch z)
  have e : t = { s with heap := t.heap, gens := t.gens, drawn := t.drawn, toks := t.toks } := by
    cases t
    cases s
    cases o
    rfl
  rw [e]
  exact ⟨.ref p, _, J, rfl, q ns p hs hm hl hn⟩
end
end Ts
/-! TsZip: zip of two sequences, each a list or a tuple. -/
namespace Ts
open PySem PySem.Spec PyProof.Rows L2
/-- a list (false) or a tuple (true) that is read -/
def SqK (b : Bool) (K : PySem.W.Frag) (H : Hp) (a : Addr) (xs : List V) : Prop := if b = true then SqT K H a xs else SqL K H a xs
def IsK (b : Bool) (h : Heap) (a : Addr) (items : Array Value) : Prop := if b = true then h.IsTuple a items else h.IsList a items
def ItK (b : Bool) (h : Heap) (it a : Addr) (i : Nat) : Prop := if b = true then h.IsTupleIter it a i else h.IsListIter it a i
def obK (b : Bool) (a : Addr) : Obj := if b = true then { cls := .type "tuple_iterator", data := .fields #[.ref a, .int 0 0] } else { cls := .type "list_iterator", data := .fields #[.ref a, .int 0 0] }
section
variable {X : Cx} {pins : List (Addr × Obj)} {σ : L2.St} {H : Hp} {s : Shared} {a : Addr} {xs ys : List V} {b : Bool} {K : PySem.W.Frag}
theorem sqk_get (I : Inv X pins σ H s) (h : SqK b X.K H a xs) : ∃ its : List Value, Vals xs its ∧ IsK b s.heap a its.toArray := by
  cases b with
  | true =>
    obtain ⟨its, r, p, _⟩ := I.tuple h
    exact ⟨its, r, p⟩
  | false =>
    obtain ⟨its, r, p, _⟩ := I.list h
    exact ⟨its, r, p.isList⟩
theorem sqk_inj (I : Inv X pins σ H s) (h : SqK b X.K H a xs) (h2 : SqK b X.K H a ys) : xs = ys := by
  cases b with
  | true => exact I.tuple_inj h h2
  | false => exact I.list_inj h h2
theorem itk_at {h h' : Heap} {it : Addr} {i : Nat} (x : ItK b h it a i) (k : ∀ o, h.get? it = some o → h'.get? it = some o) : ItK b h' it a i := by
  cases b with
  | true => exact Heap.IsTupleIter.at x k
  | false => exact Heap.IsListIter.at x k
theorem itk_there {h : Heap} {it : Addr} {i : Nat} (x : ItK b h it a i) : ∃ o, h.get? it = some o ∧ ∀ v, o.data ≠ .cell v := by
  cases b with
  | true =>
    obtain ⟨o, e, _, d⟩ := (show h.IsTupleIter it a i from x)
    exact ⟨o, e, fun v q => by
      rw [d] at q
      cases q⟩
  | false =>
    obtain ⟨o, e, _, d⟩ := (show h.IsListIter it a i from x)
    exact ⟨o, e, fun v q => by
      rw [d] at q
      cases q⟩
theorem isk_lt {h : Heap} {items : Array Value} (x : IsK b h a items) : a < h.objs.size := by
  cases b with
  | true =>
    obtain ⟨o, e, _⟩ := (show h.IsTuple a items from x)
    exact Heap.lt_size e
  | false =>
    obtain ⟨o, e, _⟩ := (show h.IsList a items from x)
    exact Heap.lt_size e
theorem draws_k {prog : Program} {w : World} {A : Around} (b : Bool) (hh : A.handled = none) (it l : Addr) (hne : l ≠ it) (items : Array Value) :
    Draws prog w A it [it, l] items.size (fun i v => items[i]? = some v) (fun i h => ItK b h it l i ∧ IsK b h l items) := by
  cases b with
  | true => exact Draws.tuple hh it l hne items
  | false => exact Draws.list hh it l hne items
theorem begins_k (b : Bool) (l : Addr) (items : Array Value) : Begins (.ref l) (obK b l) fun h => IsK b h l items := by
  cases b with
  | true => exact begins_tuple l items
  | false => exact begins_list l items
theorem itk_new {h : Heap} {it l : Addr} (e : h.get? it = some (obK b l)) : ItK b h it l 0 := by
  cases b with
  | true => exact ⟨_, e, rfl, rfl⟩
  | false => exact ⟨_, e, rfl, rfl⟩
end
/-- the sequences at a and b as they stand at each turn, the items in new pairs -/
def ItzM (b1 b2 : Bool) (K : PySem.W.Frag) (a b : Addr) : It :=
  ⟨fun i H => ∃ (xs ys : List V) (x y : V), SqK b1 K H a xs ∧ SqK b2 K H b ys ∧ xs[i]? = some x ∧ ys[i]? = some y,
   fun i H v H' => ∃ T x y, v = .ref T ∧ H T = none ∧ H' = upd H T (.tup [x, y]) ∧ (∀ xs, SqK b1 K H a xs → xs[i]? = some x) ∧ ∀ ys, SqK b2 K H b ys → ys[i]? = some y,
   fun i H => ∃ xs ys : List V, SqK b1 K H a xs ∧ SqK b2 K H b ys ∧ xs.length = ys.length ∧ xs.length = i⟩
theorem turn_zipM {P : Program} {w : World} {K : PySem.W.Frag} {elts : List Expr} {kk : Nat} {tpos : Pos} {b1 b2 : Bool} {a b z TI TO i1 i2 : Addr}
    (S : ZipSep2 z TI TO i1 i2 [i1, a] [i2, b]) (ha : a ≠ i1) (hb : b ≠ i2) :
    Turn P w K (.Tuple elts kk tpos) (ItzM b1 b2 K a b) [z, TI, TO, i1, i2] z
      (fun i h => IsZip h z TI TO .none ∧ IsTupOf2 h TI (.ref i1) (.ref i2) ∧ (∃ x y, IsTupOf2 h TO x y) ∧ ItK b1 h i1 a i ∧ ItK b2 h i2 b i) where
  mem := by simp
  obj := fun i h st c hc => by
    obtain ⟨hz, hTI, ⟨x, y, hTO⟩, h1, h2⟩ := st
    have e1 : c = z ∨ c = TI ∨ c = TO ∨ c = i1 ∨ c = i2 := by simpa using hc
    rcases e1 with q | q | q | q | q <;> rw [q]
    · exact ⟨_, hz, fun v q => nomatch q⟩
    · exact ⟨_, hTI, fun v q => nomatch q⟩
    · exact ⟨_, hTO, fun v q => nomatch q⟩
    · exact itk_there h1
    · exact itk_there h2
  keep := fun i h h' st k => by
    obtain ⟨hz, hTI, ⟨x, y, hTO⟩, h1, h2⟩ := st
    exact ⟨k z (by simp) _ hz, k TI (by simp) _ hTI, ⟨x, y, k TO (by simp) _ hTO⟩,
      itk_at h1 fun o q => k i1 (by simp) o q, itk_at h2 fun o q => k i2 (by simp) o q⟩
  item := by
    intro X hP hw hK hc i pins s σ H E I hf st hg
    subst hP hw hK
    obtain ⟨hz, hTI, ⟨x0, y0, hTO⟩, h1, h2⟩ := st
    obtain ⟨xs, ys, x, y, hqx, hqy, hx, hy⟩ := hg
    obtain ⟨its, rv, p⟩ := sqk_get I hqx
    obtain ⟨its2, rv2, p2⟩ := sqk_get I hqy
    obtain ⟨u, hu, ru⟩ := rv.get hx
    obtain ⟨u2, hu2, ru2⟩ := rv2.get hy
    have hzl : z < s.heap.objs.size := Heap.lt_size hz
    have l1 : i < its.toArray.size := by
      rw [List.size_toArray]
      exact (List.getElem?_eq_some_iff.mp hu).1
    have l2 : i < its2.toArray.size := by
      rw [List.size_toArray]
      exact (List.getElem?_eq_some_iff.mp hu2).1
    refine wpAny_pyNext_zipD2_item S (draws_k b1 (A := X.A.in1) (I.ok.hd hc) i1 a ha its.toArray) (draws_k b2 (A := X.A.in1) (I.ok.hd hc) i2 b hb its2.toArray)
      hz hTI hTO ⟨h1, p⟩ ⟨h2, p2⟩ l1 l2 fun v1 v2 h' tk q1 q2 z1 TO1 st1 st2 hT hsz hk => ?_
    have e1 : v1 = u := by
      have t : its.toArray[i]? = some v1 := q1
      rw [List.getElem?_toArray, hu] at t
      exact (Option.some.inj t).symm
    have e2 : v2 = u2 := by
      have t : its2.toArray[i]? = some v2 := q2
      rw [List.getElem?_toArray, hu2] at t
      exact (Option.some.inj t).symm
    subst e1 e2
    refine ⟨_, rfl, wpAny_letOwnedTupleGo_zip (s := { s with heap := h', toks := tk }) z1 fun h'' z2 sb => ?_⟩
    have hT2 : h''.get? s.heap.objs.size = some { cls := .type "tuple", data := .seq #[v1, v2] } :=
      (sb.2 _ (Nat.ne_of_gt hzl)).trans hT
    have new : ObjOk X.prog X.w (upd H s.heap.objs.size (.tup [x, y])) h'' s.heap.objs.size (.tup [x, y]) :=
      ⟨by show 2 ≤ sizeLine; decide, [v1, v2], .cons ru (.cons ru2 .nil), ⟨_, hT2, rfl, _, rfl⟩⟩
    have out : ∀ c, c ∉ [z, TI, TO, i1, i2] → c ≠ z ∧ c ≠ TO ∧ c ≠ i1 ∧ c ≠ i2 := fun c hc => by
      simp only [List.mem_cons, List.not_mem_nil, or_false, not_or] at hc
      exact ⟨hc.1, hc.2.2.1, hc.2.2.2.1, hc.2.2.2.2⟩
    have I1 : Inv X pins σ (upd H s.heap.objs.size (.tup [x, y])) { s with heap := h'', toks := tk } :=
      I.turnedNew (ch := [z, TI, TO, i1, i2])
        (fun c o hc q => by
          obtain ⟨m1, m2, m3, m4⟩ := out c hc
          exact (sb.2 c m1).trans (hk c o m1 m2 m3 m4 q)) hf (Nat.le_refl _) new
    refine ⟨.ref s.heap.objs.size, _, I1, rfl, ⟨_, x, y, rfl, I.hok.fresh (Nat.le_refl _), rfl, fun l hl => by rw [sqk_inj I hl hqx]; exact hx, fun l hl => by rw [sqk_inj I hl hqy]; exact hy⟩,
      ⟨z2, (sb.2 _ S.TIz).trans (hk _ _ S.TIz S.TITO S.TIi1 S.TIi2 hTI), ⟨v1, v2, (sb.2 _ S.TOz).trans TO1⟩, itk_at st1.1 fun o q => (sb.2 _ (Ne.symm S.zi1)).trans q, itk_at st2.1 fun o q => (sb.2 _ (Ne.symm S.zi2)).trans q⟩, fun c hcm => ?_⟩
    have hlt : c < s.heap.objs.size := by
      have e3 : c = z ∨ c = TI ∨ c = TO ∨ c = i1 ∨ c = i2 := by simpa using hcm
      rcases e3 with q | q | q | q | q <;> rw [q]
      · exact hzl
      · exact Heap.lt_size hTI
      · exact Heap.lt_size hTO
      · obtain ⟨_, e4, _⟩ := itk_there h1
        exact Heap.lt_size e4
      · obtain ⟨_, e4, _⟩ := itk_there h2
        exact Heap.lt_size e4
    rw [upd_ne (Nat.ne_of_lt hlt)]
    exact (hf c hcm).1
  done := by
    intro X hP hw hK hc i pins s σ H E I hf st hg
    subst hP hw hK
    obtain ⟨hz, hTI, ⟨x0, y0, hTO⟩, h1, h2⟩ := st
    obtain ⟨xs, ys, hqx, hqy, hel, hei⟩ := hg
    obtain ⟨its, rv, p⟩ := sqk_get I hqx
    obtain ⟨its2, rv2, p2⟩ := sqk_get I hqy
    have l1 := rv.length
    have l2 := rv2.length
    have n1 : its.toArray.size = i := by
      rw [List.size_toArray]
      omega
    have n2 : its2.toArray.size = i := by
      rw [List.size_toArray]
      omega
    exact wpAny_pyNext_zipD2_end S (draws_k b1 (A := X.A.in1) (I.ok.hd hc) i1 a ha its.toArray) (draws_k b2 (A := X.A.in1) (I.ok.hd hc) i2 b hb its2.toArray)
      hz hTI hTO ⟨h1, p⟩ ⟨h2, p2⟩ (by omega) (by omega) (.inl n1.symm) fun h' tk hk =>
        ⟨rfl, I.turnedL (t' := tk) (ch := [z, TI, TO, i1, i2])
          (fun c o hc q => by
            simp only [List.mem_cons, List.not_mem_nil, or_false, not_or] at hc
            exact hk c o hc.1 hc.2.2.1 hc.2.2.2.1 hc.2.2.2.2 q) hf⟩
  self := fun A i s Q E st h => wpAny_pyIter_zip st.1 h
def iZipM (b1 b2 : Bool) (K : PySem.W.Frag) (ta : TA) : TI := fun σ H R => ta σ H fun vs H1 => ∃ a b xs ys, vs = [.ref a, .ref b] ∧ SqK b1 K H1 a xs ∧ SqK b2 K H1 b ys ∧ R (ItzM b1 b2 K a b) H1
theorem pi_zipM {X : Cx} {e e2 : Expr} {ta : TA} {p pos tpos : Pos} {elts : List Expr} {kk : Nat} (b1 b2 : Bool) (K : PySem.W.Frag) (hg : Gl X "zip") (hm : X.mg "zip" = none) (ha : PA X [e, e2] ta) (hK : X.K = K := by rfl)
    (hs : starEach [e, e2] X.env = (false, eval e X.env) :: starEach [e2] X.env := by rfl) (hpl : (backTo pos (starEach [e2] X.env)).any (·.1) = false := by rfl) :
    PI X (.Tuple elts kk tpos) (.Call (.Name "zip" p) [e, e2] [] pos) (iZipM b1 b2 K ta) := by
  subst hK
  refine ⟨fun pins s σ H R I h => ?_⟩
  refine Call_ (ld_blt I hg hm PyProof.Rows.boot_zip (PyProof.Rows.callWith_type1
    (thn (ha.run pos pins s σ H _ I h) fun us s1 ⟨vs, H1, I1, r1, q1⟩ => ?_) hs hpl))
  obtain ⟨a, b, xs, ys, ex, hqx, hqy, q⟩ := q1
  subst ex
  cases r1 with
  | cons r rr =>
    cases rr with
    | cons r2 rr =>
      cases rr
      cases r
      cases r2
      obtain ⟨its, rv, p1⟩ := sqk_get I1 hqx
      obtain ⟨its2, rv2, p2⟩ := sqk_get I1 hqy
      have fresh5 : ∀ c, c ∈ [s1.heap.objs.size + 4, s1.heap.objs.size + 2, s1.heap.objs.size + 3, s1.heap.objs.size, s1.heap.objs.size + 1] → FpOk X pins H1 c := fun c hcm => by
        have hle : s1.heap.objs.size ≤ c := by
          simp only [List.mem_cons, List.not_mem_nil, or_false] at hcm
          omega
        exact I1.fpOk hle (I1.hok.fresh hle)
      have la := isk_lt p1
      have lb := isk_lt p2
      refine zip_begins2 (begins_k b1 a its.toArray) (begins_k b2 b its2.toArray) p1 p2 fun h' hz hTI hTO h1 h2 hsz hk => wpAny_pyIter_zip hz ?_
      have I2 : Inv X pins σ H1 { s1 with heap := h' } := I1.kept (t' := s1.toks) hk
      have S := zip_sep2 (N := s1.heap.objs.size) (fp1 := [a]) (fp2 := [b]) (fun c hc => by rw [List.mem_singleton.mp hc]; exact la) (fun c hc => by rw [List.mem_singleton.mp hc]; exact lb)
      exact ⟨s1.heap.objs.size + 4, _, _, _, H1, rfl, I2, turn_zipM S (Nat.ne_of_lt la) (Nat.ne_of_lt (Nat.lt_succ_of_lt lb)), ⟨hz, hTI, ⟨_, _, hTO⟩, itk_new h1, itk_new h2⟩, fresh5, q⟩
theorem walk_zipM {K : PySem.W.Frag} {b1 b2 : Bool} {a b : Addr} {xs ys : List V} (e : xs.length = ys.length) : Walk (ItzM b1 b2 K a b) xs.length (fun H => SqK b1 K H a xs ∧ SqK b2 K H b ys) (YPair (fun i => xs[i]?) (fun i => ys[i]?)) where
  goes := fun i H hi h => ⟨xs, ys, xs[i], ys[i], h.1, h.2, by simp [hi], by simp [← e, hi]⟩
  stops := fun H h => ⟨xs, ys, h.1, h.2, e, rfl⟩
  yields := fun i H v H' _ h y => by
    obtain ⟨T, x, z, ev, hT, eH, hx, hz⟩ := y
    exact ⟨T, x, z, ev, hT, eH, hx xs h.1, hz ys h.2⟩
theorem r_zipM {K : PySem.W.Frag} {b1 b2 : Bool} {t : TA} {σ : L2.St} {H : Hp} {R : It → Hp → Prop} (h : t σ H fun vs H1 => ∃ a b xs ys, vs = [.ref a, .ref b] ∧ SqK b1 K H1 a xs ∧ SqK b2 K H1 b ys ∧ R (ItzM b1 b2 K a b) H1) : iZipM b1 b2 K t σ H R := h
end Ts
/-! TsRepr: how long the repr of ints, lists and tuples is. -/
namespace Ts
open PySem PySem.Spec PyProof.Rows L2
mutual
/-- data whose repr is short for each item: numbers below 10^31, truths, None -/
def okR : PyData → Bool
  | .none => true
  | .bool _ => true
  | .int i => decide (i.natAbs < 10 ^ 31)
  | .str _ => false
  | .list xs => okRs xs
  | .tuple xs => okRs xs
  | .dict _ => false
def okRs : List PyData → Bool
  | [] => true
  | x :: xs => okR x && okRs xs
end
mutual
/-- at most so many signs -/
def wtR : PyData → Nat
  | .none => 4
  | .bool _ => 5
  | .int _ => 32
  | .str _ => 0
  | .list xs => wtRs xs + 4
  | .tuple xs => wtRs xs + 4
  | .dict _ => 0
def wtRs : List PyData → Nat
  | [] => 0
  | x :: xs => (wtR x + 2) + wtRs xs
end
theorem log_lt {i : Int} (h : i.natAbs < 10 ^ 31) : i.natAbs.log2 < 1920 := by
  by_cases e : i.natAbs = 0
  · rw [e]
    decide
  · refine (Nat.log2_lt e).mpr (Nat.lt_trans h ?_)
    exact Nat.lt_of_lt_of_le (show (10 : Nat) ^ 31 < 2 ^ 128 by decide) (Nat.pow_le_pow_right (by decide) (by decide))
theorem text_up : ∀ (ts : List Str) (k : Nat) (acc : Str), (textFrom k acc ts).length ≤ acc.length + piled ts
  | [], k, acc => by
    show acc.length ≤ _
    omega
  | t :: ts, k, acc => by
    have ih := text_up ts (k + 1) (acc ++ (if k > 0 then ", " else "" : String) ++ t)
    have e : (acc ++ (if k > 0 then ", " else "" : String) ++ t).length ≤ acc.length + 2 + t.length := by
      rw [strLen_append, strLen_append]
      have : (((if k > 0 then ", " else "" : String) : Str)).length ≤ 2 := by split <;> decide
      omega
    rw [piled_cons]
    show (textFrom (k + 1) _ ts).length ≤ _
    omega
theorem list_up (ts : List Str) : (listText ts).length ≤ piled ts + 4 := by
  unfold listText
  rw [strLen_append]
  have := text_up ts 0 "["
  have e1 : ((("[" : String) : Str)).length = 1 := rfl
  have e2 : ((("]" : String) : Str)).length = 1 := rfl
  omega
theorem tuple_up (ts : List Str) : (tupleText ts).length ≤ piled ts + 4 := by
  unfold tupleText
  rw [strLen_append, strLen_append]
  have e1 : ((("(" : String) : Str)).length = 1 := rfl
  have e3 : (((if ts.length == 1 then ",)" else ")" : String) : Str)).length ≤ 2 := by split <;> decide
  by_cases h : ts = []
  · subst h
    have e4 : (Str.join ", " ([] : List Str)).length = 0 := rfl
    omega
  · have := join_length_add ts h
    omega
mutual
theorem shown_up : ∀ d : PyData, okR d = true → d.shown.length ≤ wtR d
  | .none, _ => by
    simp only [PyData.shown, wtR]
    decide
  | .bool b, _ => by
    simp only [PyData.shown, wtR]
    cases b <;> decide
  | .int i, h => by
    simp only [okR, decide_eq_true_eq] at h
    simp only [PyData.shown, wtR]
    show (Str.ofString (toString i)).length ≤ 32
    rw [PySem.ofString_length]
    exact int_text_length_le10 (by decide) h
  | .str _, h => by simp [okR] at h
  | .dict _, h => by simp [okR] at h
  | .list xs, h => by
    simp only [okR] at h
    simp only [PyData.shown, wtR]
    have := list_up (PyData.shownAll xs)
    have := shown_ups xs h
    omega
  | .tuple xs, h => by
    simp only [okR] at h
    simp only [PyData.shown, wtR]
    have := tuple_up (PyData.shownAll xs)
    have := shown_ups xs h
    omega
theorem shown_ups : ∀ ds : List PyData, okRs ds = true → piled (PyData.shownAll ds) ≤ wtRs ds
  | [], _ => Nat.le_refl _
  | d :: ds, h => by
    simp only [okRs, Bool.and_eq_true] at h
    have h1 := shown_up d h.1
    have h2 := shown_ups ds h.2
    simp only [PyData.shownAll, wtRs]
    rw [piled_cons]
    omega
end
mutual
theorem showable_of : ∀ d : PyData, okR d = true → d.showable = true
  | .none, _ => rfl
  | .bool b, _ => rfl
  | .int i, h => by
    simp only [okR, decide_eq_true_eq] at h
    simp only [PyData.showable, decide_eq_true_eq]
    exact log_lt h
  | .str _, h => by simp [okR] at h
  | .dict _, h => by simp [okR] at h
  | .list xs, h => by
    simp only [okR] at h
    simp only [PyData.showable]
    exact showables_of xs h
  | .tuple xs, h => by
    simp only [okR] at h
    simp only [PyData.showable]
    exact showables_of xs h
theorem showables_of : ∀ ds : List PyData, okRs ds = true → PyData.showableAll ds = true
  | [], _ => rfl
  | d :: ds, h => by
    simp only [okRs, Bool.and_eq_true] at h
    simp only [PyData.showableAll, Bool.and_eq_true]
    exact ⟨showable_of d h.1, showables_of ds h.2⟩
end
/-- repr of such data -/
theorem r_rep {K : PySem.W.Frag} {H : Hp} {Q : VK} {x : V} {d : PyData} (hd : Dp K H x d) (ho : okR d = true) (hw : wtR d ≤ 16000000) (hdep : d.depth ≤ 50) (k : Q (.str d.shown) H) : rRepD K [x] H Q := by
  refine ⟨x, d, rfl, hd, showable_of d ho, ?_, hdep, k⟩
  have := shown_up d ho
  rw [sizeLine_eq]
  omega
theorem okR_ints (ns : List Int) (h : ∀ x ∈ ns, x.natAbs < 10 ^ 31) : okRs (ns.map PyData.int) = true := by
  induction ns with
  | nil => rfl
  | cons n ns ih =>
    show (decide (n.natAbs < 10 ^ 31) && okRs (ns.map PyData.int)) = true
    rw [ih fun x hx => h x (List.mem_cons_of_mem _ hx), decide_eq_true (h n List.mem_cons_self)]
    rfl
theorem wtR_ints (ns : List Int) : wtRs (ns.map PyData.int) = 34 * ns.length := by
  induction ns with
  | nil => rfl
  | cons n ns ih =>
    show (32 + 2) + wtRs (ns.map PyData.int) = 34 * (ns.length + 1)
    rw [ih]
    omega
/-- x is not y, truths -/
def rNotB : R2 := fun x y H Q => ∃ a b, x = .bl a ∧ y = .bl b ∧ Q (.bl (!decide (a = b))) H
theorem op_notB {X : Cx} : OpR X (compareOp .IsNot) rNotB := by
  intro pins s σ H x y v u Q I rx ry h
  obtain ⟨a, b, rfl, rfl, q⟩ := h
  cases rx
  cases ry
  refine wpAny_pure (M := model X.prog X.w) ?_
  refine ⟨.bl (!decide (a = b)), H, I, ?_, q⟩
  cases a <;> cases b <;> rfl
end Ts
/-! TsMore: (x,) * n, n from 0. -/
namespace Ts
open PySem PySem.Spec PyProof.Rows L2
open HT in
theorem tuple_mulNone (l : Addr) (items : Array Value) (n : Nat) (dd : Option Addr) (sl : Array (Option Value)) (u : Tok) (hz : items.isEmpty = false) :
    Meets (Builtin.«tuple.__mul__» ⟨[.ref l, .int 0 u], []⟩) (fun _ R s => s.heap.get? l = some { cls := .type "tuple", dict := dd, data := .seq items n, slots := sl } ∧
      R (.ok (.ret (Value.ref s.heap.objs.size))) { s with heap := s.heap.push { cls := Value.type "tuple", data := Data.seq #[] }, toks := s.toks }) :=
  .of_wp fun prog w A R s h => by
    obtain ⟨hp, g, d, tk, os⟩ := s
    obtain ⟨hl, h⟩ := h
    have f1 := AutoSeq1.idx_int
    have c0 : (decide ((0 : Int) < -(2 ^ 63)) || decide ((0 : Int) ≥ 2 ^ 63)) = false := by decide
    have c1 : (items.isEmpty || (0 : Int) == 1) = false := by rw [hz]; rfl
    have c2 : (decide ((0 : Int) ≤ 0) || items.isEmpty) = true := by rfl
    wp_walk using AutoSeq1.wpAny_loadPart' hl
    repeat (first
      | (refine wpAny_ite_false (decide_eq_false (by rw [c0]; exact Bool.false_ne_true)) ?_; wp_walk using AutoSeq1.wpAny_loadPart' hl)
      | (refine wpAny_ite_false (decide_eq_false (by rw [c1]; exact Bool.false_ne_true)) ?_; wp_walk using AutoSeq1.wpAny_loadPart' hl)
      | (refine wpAny_ite_true (decide_eq_true c2) ?_; wp_walk using AutoSeq1.wpAny_loadPart' hl))
    exact ⟨_, rfl, h⟩
/-- (x,) * n, n from 0 -/
def rTupRep (K : PySem.W.Frag) : R2 := fun x y H Q => ∃ (l : Addr) (n : Nat) (v : V), x = .ref l ∧ y = .int (n : Int) ∧ SqT K H l [v] ∧ n ≤ 1000 ∧
  ∀ q H', Ex H H' → SqT K H' q (List.replicate n v) → Q (.ref q) H'
theorem flat_one (n : Nat) (x : V) : (List.replicate n [x]).flatten = List.replicate n x := by
  induction n with
  | zero => rfl
  | succ n ih =>
    rw [List.replicate_succ, List.flatten_cons, ih, List.replicate_succ]
    rfl
theorem op_tupRep {X : Cx} : OpR X (binaryOp .Mult) (rTupRep X.K) := by
  intro pins s σ H x y v u Q I rx ry h
  obtain ⟨l, k, z, rfl, rfl, hT, h1, q⟩ := h
  by_cases hk : k = 0
  · subst hk
    cases rx
    obtain ⟨t, rfl⟩ := ry
    obtain ⟨its, r, ⟨⟨cls, dd, data, sl⟩, ho, hc, n, hd⟩, hs⟩ := I.tuple hT
    simp only at hc hd
    subst hc hd
    have hi : its.toArray.isEmpty = false := by
      cases its with
      | nil => cases r
      | cons a b => rfl
    refine wpAny_binaryOp_repeat_ref (T := "tuple") (U := "int") (by decide) ⟨_, ho, rfl⟩ (fun t1 => typeIs_int t1 0 t)
      noFill_tuple_mul F.fills_int_mul F.slot_int_rmul repeat_tuple F.slot_int_index.lookup
      (call_meets F.slot_int_rmul (typeIs_int s 0 t) F.entry_int_rmul (F.args_int_rmul_2 _ _)
        (int_rmul_tuple 0 t l its.toArray n dd sl)
        ⟨ho, rfl, ⟨_, ho, rfl⟩, call_meets F.slot_tuple_mul ⟨_, ho, rfl⟩ F.entry_tuple_mul (F.args_tuple_mul_2 _ _)
          (tuple_mulNone l its.toArray n dd sl t hi) ⟨ho, ?_⟩⟩)
    have hn : H s.heap.objs.size = none := I.hok.fresh (Nat.le_refl _)
    exact ⟨.ref s.heap.objs.size, _, I.laid (t' := s.toks) (o := .tup []) (fun b ob q => Heap.get?_push_of_some _ q) (Nat.le_refl _) ⟨Nat.zero_le _, [], .nil, IsTup.new _ _⟩, rfl, q _ _ (ex_new hn) (SqT.of upd_same)⟩
  · refine op_tupMul pins s σ H _ _ v u Q I rx ry ⟨l, k, [z], rfl, rfl, hT, by simp, by omega, by omega, by show 1 ≤ 1000; decide, fun e => ?_, fun p hp => ?_⟩
    · have e1 : k = 1 := by omega
      subst e1
      exact q l H (Evl.Ex.refl H) hT
    · refine q p _ (ex_new hp) (SqT.of ?_)
      rw [upd_same, Int.toNat_natCast, flat_one]
theorem mulN {X : Cx} (K : PySem.W.Frag) (hK : X.K = K := by rfl) : OpR X (binaryOp .Mult) (rTupRep K) := hK ▸ op_tupRep
theorem r_rep0 {K : PySem.W.Frag} {H : Hp} {Q : VK} {z : Addr} {n : Nat} {x : V} (hz : SqT K H z [x]) (h2 : n ≤ 1000) (k : ∀ q H', Ex H H' → SqT K H' q (List.replicate n x) → Q (.ref q) H') : rTupRep K (.ref z) (.int (n : Int)) H Q :=
  ⟨z, n, x, rfl, rfl, hz, h2, k⟩
theorem lstK {X : Cx} (K : PySem.W.Frag) {k n : Nat} {ts : List Expr} {u : TGs} {pos : Pos} (hc : X.calm = true) (h : PGs X ts u) (hn : (assignEach ts X.env).length = n := by rfl) (hst : (assignEach ts X.env).findIdx? (·.1) = none := by rfl) (hK : X.K = K := by rfl) :
    PG X (.Tuple ts k pos) (gLst K n u) := hK ▸ pg_lst hc h hn hst
theorem r_four {K : PySem.W.Frag} {T : Addr} {i j l m : Nat} {x y z t : V} {σ : L2.St} {H : Hp} {R : L2.St → Hp → Prop} (hs : SqL K H T [x, y, z, t]) (k : R ((((σ.set i (some x)).set j (some y)).set l (some z)).set m (some t)) H) :
    gLst K 4 (gCons (gName i) (gCons (gName j) (gCons (gName l) (gCons (gName m) gNil)))) (.ref T) σ H R :=
  ⟨T, [x, y, z, t], rfl, hs, rfl, x, [y, z, t], rfl, y, [z, t], rfl, z, [t], rfl, t, [], rfl, rfl, k⟩
end Ts
namespace Ts
open PySem PySem.Spec PyProof.Rows L2
/-- t.index(y), flat items, the first place -/
def rIndexT (K : PySem.W.Frag) : V → List V → Hp → VK → Prop := fun x xs H Q => ∃ (a : Addr) (ys : List V) (y : V) (j : Nat) (z : V), x = V.ref a ∧ xs = [y] ∧ SqT K H a ys ∧ flatV y = true ∧ ys.all flatV = true ∧ ys[j]? = some z ∧ eqV z y = true ∧
  (∀ (m : Nat) (q : V), m < j → ys[m]? = some q → eqV q y = false) ∧ Q (.int (j : Nat)) H
theorem mt_indexT {X : Cx} : MtR X "tuple.index" (rIndexT X.K) := by
  intro pins s σ H x xs v us Q I rx rs h
  obtain ⟨p, ys, y, j, z, rfl, rfl, hq, fy, fys, hz, hzj, hno, q⟩ := h
  cases rx
  obtain ⟨uy, rfl, ry⟩ := vals1 rs
  obtain ⟨its, rv, ⟨⟨cls, dd, dt, sl⟩, ho, hc, n, hd⟩, hlen⟩ := I.tuple hq
  simp only at hc hd
  subst hc hd
  obtain ⟨u, hu, ru⟩ := rv.get hz
  obtain ⟨hjl, hje⟩ := List.getElem?_eq_some_iff.mp hu
  have hvl := rv.length
  have hj : j < its.toArray.size := by simpa using hjl
  refine call_meets PySem.F.slot_tuple_index ⟨_, ho, rfl⟩ PySem.F.entry_tuple_index (PySem.F.args_tuple_index_2 _ _)
    (TI.tuple_indexAt p its.toArray n dd sl uy (eqU y) j hj ?_ ?_)
    ⟨ho, fun w hw => mem_eqAt ry fy rv fys w (by simpa using hw), ⟨.int (j : Nat), H, I.tok _, ⟨_, rfl⟩, q⟩⟩
  · have e1 : its.toArray[j] = u := by simpa using hje
    rw [e1, eqU_of ru (flat_at fys hz)]
    exact hzj
  · intro m hm hmj
    have hmy : m < ys.length := by
      have : m < its.length := by simpa using hm
      omega
    obtain ⟨u2, hu2, ru2⟩ := rv.get (List.getElem?_eq_getElem hmy)
    obtain ⟨_, hme⟩ := List.getElem?_eq_some_iff.mp hu2
    have e1 : its.toArray[m] = u2 := by simpa using hme
    rw [e1, eqU_of ru2 (flat_at fys (List.getElem?_eq_getElem hmy))]
    exact hno m _ hmj (List.getElem?_eq_getElem hmy)
theorem mIndexT {X : Cx} (K : PySem.W.Frag) (hK : X.K = K := by rfl) : MtR X "tuple.index" (rIndexT K) := hK ▸ mt_indexT
theorem tyv_tup {K : PySem.W.Frag} {H : Hp} {p : Addr} (h : tyV K "tuple" (.ref p) H) : tyV K "tuple" (.ref p) H := h
end Ts
/-! TsFrz: tuples whose object is known whole (no dict of their own): made by tuple(a list), asked by a method. -/
namespace Ts
open PySem PySem.Spec PyProof.Rows L2
/-- the tuple at a has no dict of its own -/
def PlT (H : Hp) (a : Addr) : Prop := ∃ o xs, H a = some (.frz o (.tup xs)) ∧ o.dict = none
theorem PlT.ex {H H' : Hp} {a : Addr} (h : PlT H a) (e : Ex H H') : PlT H' a := by
  obtain ⟨o, xs, h1, h2⟩ := h
  exact ⟨o, xs, e _ _ h1, h2⟩
theorem PlT.kp {H H' : Hp} {a s : Addr} {u : HO} (h : PlT H a) (k : Kp [s] H H') (hs : H s = some u) (hu : ∀ o xs, u ≠ .frz o xs) : PlT H' a := by
  obtain ⟨o, xs, h1, h2⟩ := h
  refine ⟨o, xs, k a _ h1 fun m => ?_, h2⟩
  rw [List.mem_singleton.mp m, hs] at h1
  exact hu _ _ (Option.some.inj h1)
/-- tuple(a list), the new object known -/
def rTupF (K : PySem.W.Frag) : List V → Hp → VK → Prop := fun xs H Q => ∃ p ys, xs = [.ref p] ∧ SqL K H p ys ∧ ∀ l o, H l = none → o.dict = none → Q (.ref l) (upd H l (.frz o (.tup ys)))
theorem cr_tupF {X : Cx} : CallR X (.type "tuple") (rTupF X.K) := by
  intro pins s σ H xs us Q I r h
  obtain ⟨p, ys, rfl, hq, q⟩ := h
  obtain ⟨u, rfl, rx⟩ := vals1 r
  cases rx
  obtain ⟨its, r1, pl, hz⟩ := I.list hq
  have hlen := r1.length
  refine call_tuple_list pl.isList (fun h1 kp => ?_) (by
    rw [List.size_toArray]
    omega)
  have I1 : Inv X pins σ H { s with heap := h1 } := I.kept (t' := s.toks) kp
  let ob : Obj := { cls := .type "tuple", data := .seq its.toArray }
  have I2 : Inv X pins σ (upd H h1.objs.size (.frz ob (.tup ys))) { s with heap := h1.push ob } :=
    I1.laid (t' := s.toks) (fun b o e => Heap.get?_push_of_some _ e) (Nat.le_refl _)
      (show ObjOk X.prog X.w _ _ _ (.frz ob (.tup ys)) from ⟨Heap.get?_push_size _ rfl, hz, its, r1, IsTup.new _ _⟩)
  exact ⟨.ref h1.objs.size, _, I2, rfl, q _ ob (I1.hok.fresh (Nat.le_refl _)) rfl⟩
theorem cTupF {X : Cx} (K : PySem.W.Frag) (hK : X.K = K := by rfl) : CallR X (.type "tuple") (rTupF K) := hK ▸ cr_tupF
/-- t.m(..), t such a tuple -/
def tBMF (r : V → List V → Hp → VK → Prop) (to : TE) (t : TA) : TE := fun σ H Q => to σ H fun x H1 => (∃ p, x = .ref p ∧ PlT H1 p) ∧ t σ H1 fun xs H2 => r x xs H2 Q
section
variable {X : Cx} {o e : Expr} {es : List Expr} {to : TE} {t : TA} {name : Str} {apos cpos : Pos} {id : String} {r : V → List V → Hp → VK → Prop}
theorem pe_bmF (pa : PlainAttrs "tuple") (slot : Slot "tuple" name id) (hty : typeOf (.builtin id) = pure (.type "method_descriptor")) (hm : MtR X id r) (ho : PE X o to) (ha : PA X (e :: es) t)
    (hbase : attributeBase o name X.env (eval o X.env) = eval o X.env := by rfl)
    (hfew : ((backTo cpos (starEach (e :: es) X.env)).all (fun x => !x.1) &&
      (backToKw cpos (keywordEach [] X.env)).all (fun x => x.1.isSome) &&
      decide ((e :: es).length + ([] : List Keyword).length + (if ([] : List Keyword).isEmpty then 0 else 1) < 30)) = true := by rfl)
    (hline : (apos.endLine == cpos.line) = true := by rfl)
    (hs : starEach (e :: es) X.env = (false, eval e X.env) :: starEach es X.env := by rfl)
    (hplain : (backTo cpos (starEach es X.env)).any (·.1) = false := by rfl) :
    PE X (.Call (.Attribute o name apos) (e :: es) [] cpos) (tBMF r to t) := by
  refine ⟨fun pins s σ H Q I h => ?_⟩
  refine wpAny_Call_method_late hbase hfew hline rfl (thn (ho.run pins s σ H _ I h) fun v s1 ⟨x, H1, I1, r1, ty, q1⟩ => ?_)
  obtain ⟨p, rfl, ob, xs, hp, hd⟩ := ty
  cases r1
  obtain ⟨hget, _, its, _, htup⟩ := I1.hok p _ hp
  obtain ⟨ob2, hg2, hc2, _⟩ := htup
  refine ⟨"tuple", id, pa, slot, hty, ⟨ob2, hg2, hc2⟩, fun a ea => ?_, ?_⟩
  · cases ea
    exact ⟨ob, hget, hd⟩
  have hA := ha.run cpos pins s1 σ H1 _ I1 q1
  rw [hs] at hA ⊢
  refine Calls.callWith_builtin (by
    show (false || (backTo cpos (starEach es X.env)).any (·.1)) = false
    rw [hplain]
    rfl) (Calls.evalArgs_plain ?_)
  exact thn hA fun us s2 ⟨vs, H2, I2, r2, q2⟩ => hm pins s2 σ H2 (.ref p) vs (.ref p) us Q I2 rfl r2 q2
end
theorem r_bmF {K : PySem.W.Frag} {r : V → List V → Hp → VK → Prop} {to : TE} {t : TA} {σ : L2.St} {H : Hp} {Q : VK} (h : to σ H fun x H1 => (∃ p, x = .ref p ∧ PlT H1 p) ∧ t σ H1 fun xs H2 => r x xs H2 Q) : tBMF r to t σ H Q := h
theorem sqt_frz {K : PySem.W.Frag} {H : Hp} {a : Addr} {xs : List V} {o : Obj} (h : H a = some (.frz o (.tup xs))) : SqT K H a xs := .inl (.inr ⟨o, h⟩)
end Ts
/-! TsCat: tuple + tuple from nothing, comprehensions over a zip of a list and a tuple. -/
namespace Ts
open PySem PySem.Spec PyProof.Rows L2
theorem ctA {X : Cx} (K : PySem.W.Frag) (hK : X.K = K := by rfl) : OpR X (binaryOp .Add) (rCatA K) := hK ▸ op_catA
theorem r_catA {K : PySem.W.Frag} {H : Hp} {Q : VK} {a b : Addr} {xs : List V} {v : V} (hx : SqT K H a xs) (hb : SqT K H b [v]) (hn : xs.length ≤ 1000) (k : ∀ q H', Ex H H' → SqT K H' q (xs ++ [v]) → Q (.ref q) H') : rCatA K (.ref a) (.ref b) H Q := by
  refine ⟨a, b, xs, [v], rfl, rfl, hx, hb, Nat.le_of_lt (small_line (by show xs.length + 1 ≤ 1000000; omega)), fun e => ?_, fun _ e => (nomatch e), fun _ _ p hp => k p _ (ex_new hp) (SqT.of upd_same)⟩
  subst e
  exact k b H (Evl.Ex.refl H) hb
theorem r_bmG {r : V → List V → Hp → VK → Prop} {to : TE} {t : TA} {σ : L2.St} {H : Hp} {Q : VK} (h : to σ H fun x H1 => (∃ p, x = .ref p ∧ PlT H1 p) ∧ t σ H1 fun xs H2 => r x xs H2 Q) : tBMF r to t σ H Q := h
/-- over a zip of a list or a tuple with another, to a map -/
theorem lcZM_map {α : Type} {K : PySem.W.Frag} {σ : L2.St} {H : Hp} {Q : VK} {te : TE} {vs : List Nat} {a b : Addr} {xs ys : List V} {zs : List α} (g : α → V) {ta : TA} {i1 i2 : Nat} {b1 b2 : Bool}
    (h : ∀ R : List V → Hp → Prop, R [.ref a, .ref b] H → ta σ H R) (hx : SqK b1 K H a xs) (hy : SqK b2 K H b ys) (he : xs.length = ys.length) (hl : xs.length = zs.length) (hn : xs.length ≤ 1000000)
    (hw : ∀ x y, wipe (((wipe σ vs).set i1 (some x)).set i2 (some y)) vs = wipe σ vs) (hsx : ∀ H', Ex H H' → SqK b1 K H' a xs) (hsy : ∀ H', Ex H H' → SqK b2 K H' b ys)
    (ht : ∀ (i : Nat) (x y : V) (z : α), xs[i]? = some x → ys[i]? = some y → zs[i]? = some z → ∀ H', Ex H H' → ∀ R : VK, (∀ H2, Ex H' H2 → R (g z) H2) → te (((wipe σ vs).set i1 (some x)).set i2 (some y)) H' R)
    (k : ∀ D H', H D = none → Ex H H' → H' D = some (.lst (zs.map g)) → Q (.ref D) H') : tLc (iZipM b1 b2 K ta) (gTup K 2 (gCons (gName i1) (gCons (gName i2) gNil))) tYes te vs σ H Q := by
  have hA := hl ▸ acc_map zs g
  refine h _ ⟨a, b, xs, ys, rfl, hx, hy, fun D hD => ?_⟩
  refine lc_it (walk_zipM (K := K) (b1 := b1) (b2 := b2) (a := a) (b := b) he) (fun i H' => Ex H H' ∧ H' D = some (.lst ((zs.take i).map g))) ⟨ex_new hD, by rw [upd_same]; rfl⟩ (fun i H' _ p => ⟨hsx _ p.1, hsy _ p.1⟩) (fun i z H' H2 hi p y => ?_) (fun H' p => k D H' hD p.1 (by rw [p.2, hl, List.take_length]))
  obtain ⟨T, x, u, ev, hT, eH, hxi, hyi⟩ := y
  subst ev eH
  refine ⟨T, [x, u], rfl, SqT.of upd_same, rfl, x, [u], rfl, u, [], rfl, rfl, hw x u, ?_⟩
  have hiz : i < zs.length := by
    rw [← hl]
    exact hi
  refine lc_turn (f := fun _ => true) hA hn hi hD (ex_newT p.1 hT) (ex_new hT _ _ p.2) (yes_turn fun H' e2 R q => ht i x u _ hxi hyi (List.getElem?_eq_getElem hiz) H' e2 R fun H3 e3 => ?_) (fun i H' => Ex H H' ∧ H' D = some (.lst ((zs.take i).map g))) fun H2 a b => ⟨a, b⟩
  have z := q H3 e3
  rw [List.getElem?_eq_getElem hiz] at z
  exact z
end Ts
namespace K96
open PySem PySem.Spec PyProof.Rows L2
/-! ### the text by places -/
def top (i : Nat) : Stmt := PySem.Challenge.pw_turnshelf_k96_whole_under_way_within.main.body.getD i (.Pass ⟨0, 0, 0, 0⟩)
abbrev sis_number : Stmt := top 9
abbrev sis_between : Stmt := top 10
abbrev sis_costs_row : Stmt := top 11
abbrev sis_costs : Stmt := top 12
abbrev sis_toll : Stmt := top 13
abbrev sneed_costs : Stmt := top 14
abbrev show_many : Stmt := top 15
abbrev sturned_for : Stmt := top 16
abbrev sis_choice : Stmt := top 17
abbrev scost : Stmt := top 18
abbrev sby_kinds : Stmt := top 19
abbrev spaper_of : Stmt := top 20
abbrev scheapest : Stmt := top 21
abbrev sis_paper : Stmt := top 22
abbrev sshows_none_less : Stmt := top 23
abbrev sis_whole_in : Stmt := top 27
abbrev sfirst_least : Stmt := top 28
abbrev sunder : Stmt := top 30
abbrev sphases_cost : Stmt := top 31
abbrev slaw_begun : Stmt := top 33
abbrev slaw_take : Stmt := top 34
abbrev slaw_pick : Stmt := top 35
abbrev slaw_number : Stmt := top 36
abbrev slaw_size : Stmt := top 37
abbrev slaw_costs : Stmt := top 38
abbrev slaw_toll : Stmt := top 39
abbrev slaw_paid : Stmt := top 40
abbrev slaw_dear : Stmt := top 41
abbrev slaw_under : Stmt := top 42
abbrev slaw_stepped : Stmt := top 43
abbrev slaw_choices : Stmt := top 44
abbrev slaw : Stmt := top 45
abbrev sUnder_init : Stmt := inClass (top 29) 0
abbrev sUnder_is_row : Stmt := inClass (top 29) 1
abbrev sUnder_chosen : Stmt := inClass (top 29) 2
abbrev sUnder_step : Stmt := inClass (top 29) 3
/-! ### the head: facts by names -/
def dis_number : He.DefD := ⟨("is_number", none), "is_number", "is_number", defArgs sis_number, defBody sis_number, defScope sis_number, [], []⟩
def dis_between : He.DefD := ⟨("is_between", none), "is_between", "is_between", defArgs sis_between, defBody sis_between, defScope sis_between, [], []⟩
def dis_costs_row : He.DefD := ⟨("is_costs_row", none), "is_costs_row", "is_costs_row", defArgs sis_costs_row, defBody sis_costs_row, defScope sis_costs_row, [], []⟩
def dis_costs : He.DefD := ⟨("is_costs", none), "is_costs", "is_costs", defArgs sis_costs, defBody sis_costs, defScope sis_costs, [], []⟩
def dis_toll : He.DefD := ⟨("is_toll", none), "is_toll", "is_toll", defArgs sis_toll, defBody sis_toll, defScope sis_toll, [], []⟩
def dneed_costs : He.DefD := ⟨("need_costs", none), "need_costs", "need_costs", defArgs sneed_costs, defBody sneed_costs, defScope sneed_costs, [], []⟩
def dhow_many : He.DefD := ⟨("how_many", none), "how_many", "how_many", defArgs show_many, defBody show_many, defScope show_many, [], []⟩
def dturned_for : He.DefD := ⟨("turned_for", none), "turned_for", "turned_for", defArgs sturned_for, defBody sturned_for, defScope sturned_for, [], []⟩
def dis_choice : He.DefD := ⟨("is_choice", none), "is_choice", "is_choice", defArgs sis_choice, defBody sis_choice, defScope sis_choice, [], []⟩
def dcost : He.DefD := ⟨("cost", none), "cost", "cost", defArgs scost, defBody scost, defScope scost, [], []⟩
def dby_kinds : He.DefD := ⟨("by_kinds", none), "by_kinds", "by_kinds", defArgs sby_kinds, defBody sby_kinds, defScope sby_kinds, [], []⟩
def dpaper_of : He.DefD := ⟨("paper_of", none), "paper_of", "paper_of", defArgs spaper_of, defBody spaper_of, defScope spaper_of, [], []⟩
def dcheapest : He.DefD := ⟨("cheapest", none), "cheapest", "cheapest", defArgs scheapest, defBody scheapest, defScope scheapest, [], []⟩
def dis_paper : He.DefD := ⟨("is_paper", none), "is_paper", "is_paper", defArgs sis_paper, defBody sis_paper, defScope sis_paper, [], []⟩
def dshows_none_less : He.DefD := ⟨("shows_none_less", none), "shows_none_less", "shows_none_less", defArgs sshows_none_less, defBody sshows_none_less, defScope sshows_none_less, [], []⟩
def dis_whole_in : He.DefD := ⟨("is_whole_in", none), "is_whole_in", "is_whole_in", defArgs sis_whole_in, defBody sis_whole_in, defScope sis_whole_in, [], []⟩
def dfirst_least : He.DefD := ⟨("first_least", none), "first_least", "first_least", defArgs sfirst_least, defBody sfirst_least, defScope sfirst_least, [], []⟩
def dunder : He.DefD := ⟨("under", none), "under", "under", defArgs sunder, defBody sunder, defScope sunder, [], []⟩
def dphases_cost : He.DefD := ⟨("phases_cost", none), "phases_cost", "phases_cost", defArgs sphases_cost, defBody sphases_cost, defScope sphases_cost, [], []⟩
def dlaw_begun : He.DefD := ⟨("_law_begun", none), "_law_begun", "_law_begun", defArgs slaw_begun, defBody slaw_begun, defScope slaw_begun, [], []⟩
def dlaw_take : He.DefD := ⟨("_law_take", none), "_law_take", "_law_take", defArgs slaw_take, defBody slaw_take, defScope slaw_take, [], []⟩
def dlaw_pick : He.DefD := ⟨("_law_pick", none), "_law_pick", "_law_pick", defArgs slaw_pick, defBody slaw_pick, defScope slaw_pick, [], []⟩
def dlaw_number : He.DefD := ⟨("_law_number", none), "_law_number", "_law_number", defArgs slaw_number, defBody slaw_number, defScope slaw_number, [], []⟩
def dlaw_size : He.DefD := ⟨("_law_size", none), "_law_size", "_law_size", defArgs slaw_size, defBody slaw_size, defScope slaw_size, [], []⟩
def dlaw_costs : He.DefD := ⟨("_law_costs", none), "_law_costs", "_law_costs", defArgs slaw_costs, defBody slaw_costs, defScope slaw_costs, [], []⟩
def dlaw_toll : He.DefD := ⟨("_law_toll", none), "_law_toll", "_law_toll", defArgs slaw_toll, defBody slaw_toll, defScope slaw_toll, [], []⟩
def dlaw_paid : He.DefD := ⟨("_law_paid", none), "_law_paid", "_law_paid", defArgs slaw_paid, defBody slaw_paid, defScope slaw_paid, [], []⟩
def dlaw_dear : He.DefD := ⟨("_law_dear", none), "_law_dear", "_law_dear", defArgs slaw_dear, defBody slaw_dear, defScope slaw_dear, [], []⟩
def dlaw_under : He.DefD := ⟨("_law_under", none), "_law_under", "_law_under", defArgs slaw_under, defBody slaw_under, defScope slaw_under, [], []⟩
def dlaw_stepped : He.DefD := ⟨("_law_stepped", none), "_law_stepped", "_law_stepped", defArgs slaw_stepped, defBody slaw_stepped, defScope slaw_stepped, [], []⟩
def dlaw_choices : He.DefD := ⟨("_law_choices", none), "_law_choices", "_law_choices", defArgs slaw_choices, defBody slaw_choices, defScope slaw_choices, [], []⟩
def dlaw : He.DefD := ⟨("law", none), "law", "law", defArgs slaw, defBody slaw, defScope slaw, [], []⟩
def dUnder_init : He.DefD := ⟨("Under", some "__init__"), "__init__", "Under.__init__", defArgs sUnder_init, defBody sUnder_init, defScope sUnder_init, [], []⟩
def dUnder_is_row : He.DefD := ⟨("Under", some "is_row"), "is_row", "Under.is_row", defArgs sUnder_is_row, defBody sUnder_is_row, defScope sUnder_is_row, [], []⟩
def dUnder_chosen : He.DefD := ⟨("Under", some "chosen"), "chosen", "Under.chosen", defArgs sUnder_chosen, defBody sUnder_chosen, defScope sUnder_chosen, [], []⟩
def dUnder_step : He.DefD := ⟨("Under", some "step"), "step", "Under.step", defArgs sUnder_step, defBody sUnder_step, defScope sUnder_step, [], []⟩
def fn : List He.DefD := [dis_number, dis_between, dis_costs_row, dis_costs, dis_toll, dneed_costs, dhow_many, dturned_for, dis_choice, dcost, dby_kinds, dpaper_of, dcheapest, dis_paper, dshows_none_less, dis_whole_in, dfirst_least, dunder, dphases_cost, dlaw_begun, dlaw_take, dlaw_pick, dlaw_number, dlaw_size, dlaw_costs, dlaw_toll, dlaw_paid, dlaw_dear, dlaw_under, dlaw_stepped, dlaw_choices, dlaw, dUnder_init, dUnder_is_row, dUnder_chosen, dUnder_step]
def fa : List He.Fa := [.glo "is_number", .glo "is_between", .glo "is_costs_row", .glo "is_costs", .glo "is_toll", .glo "need_costs", .glo "how_many", .glo "turned_for", .glo "is_choice", .glo "cost", .glo "by_kinds", .glo "paper_of", .glo "cheapest", .glo "is_paper", .glo "shows_none_less", .glo "is_whole_in", .glo "first_least", .glo "under", .glo "phases_cost", .glo "_law_begun", .glo "_law_take", .glo "_law_pick", .glo "_law_number", .glo "_law_size", .glo "_law_costs", .glo "_law_toll", .glo "_law_paid", .glo "_law_dear", .glo "_law_under", .glo "_law_stepped", .glo "_law_choices", .glo "law", .glo "ShelfError", .glo "NoCosts", .glo "NoChoice", .glo "Under", .int "MOST_ROWS" 120, .int "MOST_KINDS_cheapest" 5, .int "MOST_COST_cheapest" 1000000, .int "MOST_TOLL" 1000, .int "MOST_KINDS_underway" 5, .int "MOST_COST_underway" 1000000, .exc "ShelfError", .exc "NoCosts", .exc "NoChoice", .cls "Under", .mkr "Under", .noat "Under" "many", .noat "Under" "toll", .noat "Under" "kind", .noat "Under" "sums", .noat "Under" "paid", .noat "Under" "phases", .meth "Under" "is_row", .meth "Under" "chosen", .meth "Under" "step", .free "ValueError", .free "abs", .free "all", .free "bool", .free "enumerate", .free "int", .free "isinstance", .free "len", .free "list", .free "max", .free "min", .free "range", .free "repr", .free "reversed", .free "set", .free "sorted", .free "sum", .free "tuple", .free "zip"]
theorem fa_at {f : He.Fa} (i : Nat) (h : fa[i]? = some f := by rfl) : fa[i]? = some f := h
abbrev R : PySem.W.OpenRow := PySem.W.OpenLaw.row PySem.Challenge.rw_turnshelf_k96_whole_under_way_within
abbrev hk : PySem.W.Hook := He.hookD 5 fa fn
def ob (s : PySem.W.SharedT) : He.AlD := He.obsDG 5 fa fn (HandSHeadRun.getT s)
theorem ob_eq (s : PySem.W.SharedT) : ob s = hk.obs s.abs := He.obsDG_eq (HandSHeadRun.getT_eq s)
def loose : List PySem.Str := (["ShelfError", "NoCosts", "NoChoice", "MOST_ROWS", "MOST_KINDS_cheapest", "MOST_COST_cheapest", "MOST_TOLL", "is_number", "is_between", "is_costs_row", "is_costs", "is_toll", "need_costs", "how_many", "turned_for", "is_choice"] : List PySem.Str) ++ (["cost", "by_kinds", "paper_of", "cheapest", "is_paper", "shows_none_less", "MOST_KINDS_underway", "MOST_COST_underway", "is_whole_in", "first_least", "Under", "under", "phases_cost", "_law_begun", "_law_take", "_law_pick"] : List PySem.Str) ++ (["_law_number", "_law_size", "_law_costs", "_law_toll", "_law_paid", "_law_dear", "_law_under", "_law_stepped", "_law_choices"] : List PySem.Str)
set_option maxHeartbeats 0 in
theorem run (w : World) : HandSHeadRun.RunEq R (PySem.W.view R.prog [45]) hk ob 4000 loose w := by
  intro os
  kernel_rfl
end K96
/-! UMath: choosing under way, in plain numbers: what is paid, where phases end, what no choice goes below. -/
namespace UM
open Ts

/-- an item of a row of ints -/
def at0 (r : List Int) (k : Nat) : Int := r.getD k 0
def row (rows : List (List Int)) (p : Nat) : List Int := rows.getD p []
def turn (toll : Int) (a k : Nat) : Int := if a = k then 0 else toll
theorem turn_nn {toll : Int} (h : 0 ≤ toll) (a k : Nat) : 0 ≤ turn toll a k ∧ turn toll a k ≤ toll := by
  unfold turn
  split <;> omega
/-- the first of some places at which the row is least -/
def leastOf (r : List Int) (places : List Nat) : Int := lmin (places.map (at0 r))
def firstLeast (r : List Int) (places : List Nat) : Nat := (places.filter fun p => decide (at0 r p = leastOf r places)).headD 0
theorem firstLeast_mem {r : List Int} {places : List Nat} (h : places ≠ []) : firstLeast r places ∈ places ∧ at0 r (firstLeast r places) = leastOf r places := by
  have hm : leastOf r places ∈ places.map (at0 r) := lmin_mem (by simpa using h)
  obtain ⟨q, hq, e⟩ := List.mem_map.mp hm
  have hf : q ∈ places.filter fun p => decide (at0 r p = leastOf r places) := List.mem_filter.mpr ⟨hq, decide_eq_true e⟩
  unfold firstLeast
  cases z : places.filter fun p => decide (at0 r p = leastOf r places) with
  | nil =>
    rw [z] at hf
    cases hf
  | cons y ys =>
    have hy : y ∈ places.filter fun p => decide (at0 r p = leastOf r places) := by
      rw [z]
      exact List.mem_cons_self
    have := List.mem_filter.mp hy
    exact ⟨this.1, of_decide_eq_true this.2⟩

structure St where
  kind : Nat
  sums : List Int
  paid : Int
  phases : Nat
def grown (s : St) (r : List Int) : List Int := List.zipWith (· + ·) s.sums r
def low (toll : Int) (n : Nat) (sums : List Int) : List Nat := (List.range n).filter fun k => decide (at0 sums k < toll)
/-- whether a row ends a phase -/
def ending (toll : Int) (n : Nat) (s : St) (r : List Int) : Bool := decide (¬ at0 (grown s r) s.kind < toll) && (low toll n (grown s r)).isEmpty
def nextKind (toll : Int) (n : Nat) (s : St) (r : List Int) : Nat :=
  if at0 (grown s r) s.kind < toll then s.kind
  else if (low toll n (grown s r)).isEmpty then (if at0 r s.kind = lmin r then s.kind else firstLeast r (List.range n))
  else firstLeast (grown s r) (low toll n (grown s r))
def step (toll : Int) (n : Nat) (s : St) (r : List Int) : St :=
  { kind := nextKind toll n s r
    sums := if ending toll n s r then List.replicate n 0 else grown s r
    paid := s.paid + (at0 r (nextKind toll n s r) + turn toll s.kind (nextKind toll n s r))
    phases := if ending toll n s r then s.phases + 1 else s.phases }
def st0 (n : Nat) : St := ⟨0, List.replicate n 0, 0, 0⟩
/-- the state behind m rows -/
def S (toll : Int) (n : Nat) (rows : List (List Int)) : Nat → St
  | 0 => st0 n
  | m + 1 => step toll n (S toll n rows m) (row rows m)
def ended (toll : Int) (n : Nat) (rows : List (List Int)) (p : Nat) : Bool := ending toll n (S toll n rows p) (row rows p)
def ends (toll : Int) (n : Nat) (rows : List (List Int)) : List Nat := (List.range rows.length).filter (ended toll n rows)
def choice (toll : Int) (n : Nat) (rows : List (List Int)) : List Nat := (List.range rows.length).map fun p => (S toll n rows (p + 1)).kind
/-- a kind's sum of the rows from a to ahead of b -/
def col (rows : List (List Int)) (j a b : Nat) : Int := ((List.range (b - a)).map fun i => at0 (row rows (a + i)) j).sum
theorem sum_snoc (l : List Int) (x : Int) : (l ++ [x]).sum = l.sum + x := by simp
theorem col_self (rows : List (List Int)) (j a : Nat) : col rows j a a = 0 := by
  unfold col
  rw [Nat.sub_self]
  rfl
theorem col_succ (rows : List (List Int)) (j : Nat) {a b : Nat} (h : a ≤ b) : col rows j a (b + 1) = col rows j a b + at0 (row rows b) j := by
  unfold col
  rw [show b + 1 - a = (b - a) + 1 by omega, List.range_succ, List.map_append, List.map_singleton, sum_snoc, show a + (b - a) = b by omega]

/-- what the law holds: rows of n numbers of at least one -/
structure Good (toll : Int) (n : Nat) (rows : List (List Int)) : Prop where
  t1 : 1 ≤ toll
  n1 : 1 ≤ n
  len : ∀ p, p < rows.length → (row rows p).length = n
  pos : ∀ p, p < rows.length → ∀ k, k < n → 1 ≤ at0 (row rows p) k

section
variable {toll : Int} {n : Nat} {rows : List (List Int)}
theorem at0_zip {xs ys : List Int} {k : Nat} (h1 : k < xs.length) (h2 : k < ys.length) : at0 (List.zipWith (· + ·) xs ys) k = at0 xs k + at0 ys k := by
  unfold at0
  rw [List.getD_eq_getElem?_getD, List.getD_eq_getElem?_getD, List.getD_eq_getElem?_getD, List.getElem?_zipWith, List.getElem?_eq_getElem h1, List.getElem?_eq_getElem h2]
  rfl
theorem at0_rep {m k : Nat} {x : Int} (h : k < m) : at0 (List.replicate m x) k = x := by
  unfold at0
  rw [List.getD_eq_getElem?_getD, List.getElem?_replicate, if_pos h]
  rfl
/-- the kinds of a state -/
structure Ok (toll : Int) (n : Nat) (s : St) : Prop where
  k : s.kind < n
  l : s.sums.length = n
  a : at0 s.sums s.kind < toll
theorem mem_low {sums : List Int} {k : Nat} : k ∈ low toll n sums ↔ k < n ∧ at0 sums k < toll := by
  unfold low
  rw [List.mem_filter, List.mem_range, decide_eq_true_eq]
theorem nextKind_lt {s : St} {r : List Int} (o : Ok toll n s) : nextKind toll n s r < n := by
  unfold nextKind
  split
  · exact o.k
  · split
    · split
      · exact o.k
      · exact List.mem_range.mp (firstLeast_mem (by
          intro e
          have := o.k
          rw [List.range_eq_nil] at e
          omega)).1
    · rename_i h
      exact (mem_low.mp (firstLeast_mem (by
        intro e
        rw [e] at h
        exact h rfl)).1).1
theorem step_ok {s : St} {r : List Int} (t1 : 1 ≤ toll) (o : Ok toll n s) (hr : r.length = n) : Ok toll n (step toll n s r) := by
  have hk := nextKind_lt (r := r) o
  have gl : (grown s r).length = n := by
    unfold grown
    rw [List.length_zipWith, o.l, hr, Nat.min_self]
  refine ⟨hk, ?_, ?_⟩
  · show (if ending toll n s r then List.replicate n 0 else grown s r).length = n
    split
    · exact List.length_replicate
    · exact gl
  · show at0 (if ending toll n s r then List.replicate n 0 else grown s r) (nextKind toll n s r) < toll
    cases he : ending toll n s r with
    | true =>
      rw [if_pos rfl, at0_rep hk]
      omega
    | false =>
      rw [if_neg Bool.false_ne_true]
      by_cases h : at0 (grown s r) s.kind < toll
      · have : nextKind toll n s r = s.kind := by
          unfold nextKind
          rw [if_pos h]
        rw [this]
        exact h
      · have hl : (low toll n (grown s r)).isEmpty = false := by
          unfold ending at he
          rw [decide_eq_true h, Bool.true_and] at he
          exact he
        have : nextKind toll n s r = firstLeast (grown s r) (low toll n (grown s r)) := by
          unfold nextKind
          rw [if_neg h, hl, if_neg Bool.false_ne_true]
        rw [this]
        exact (mem_low.mp (firstLeast_mem (by
          intro e
          rw [e] at hl
          cases hl)).1).2
theorem S_ok (G : Good toll n rows) : ∀ m, m ≤ rows.length → Ok toll n (S toll n rows m)
  | 0, _ => ⟨G.n1, List.length_replicate, by
      show at0 (List.replicate n 0) 0 < toll
      rw [at0_rep G.n1]
      exact Int.lt_of_lt_of_le Int.zero_lt_one G.t1⟩
  | m + 1, h => step_ok G.t1 (S_ok G m (Nat.le_of_succ_le h)) (G.len m h)

/-- a phase begins -/
def Fresh (toll : Int) (n : Nat) (rows : List (List Int)) (f : Nat) : Prop := (S toll n rows f).sums = List.replicate n 0
def Calm (toll : Int) (n : Nat) (rows : List (List Int)) (f m : Nat) : Prop := ∀ p, f ≤ p → p < m → ended toll n rows p = false
theorem fresh_0 : Fresh toll n rows 0 := rfl
theorem fresh_end {e : Nat} (h : ended toll n rows e = true) : Fresh toll n rows (e + 1) := by
  show (if ending toll n (S toll n rows e) (row rows e) then List.replicate n 0 else _) = _
  rw [if_pos (show ending toll n (S toll n rows e) (row rows e) = true from h)]
theorem grown_col (G : Good toll n rows) {f m : Nat} (hf : f ≤ m) (hm : m < rows.length) (h : ∀ k, k < n → at0 (S toll n rows m).sums k = col rows k f m) : ∀ k, k < n → at0 (grown (S toll n rows m) (row rows m)) k = col rows k f (m + 1) := by
  intro k hk
  have o := S_ok G m (Nat.le_of_lt hm)
  unfold grown
  rw [at0_zip (by rw [o.l]; exact hk) (by rw [G.len m hm]; exact hk), h k hk, col_succ rows k hf]
theorem sums_col (G : Good toll n rows) {f : Nat} (hF : Fresh toll n rows f) : ∀ d, f + d ≤ rows.length → Calm toll n rows f (f + d) → ∀ k, k < n → at0 (S toll n rows (f + d)).sums k = col rows k f (f + d)
  | 0, _, _, k, hk => by
    rw [Nat.add_zero, col_self, hF, at0_rep hk]
  | d + 1, hd, hc, k, hk => by
    have ih := sums_col G hF d (by omega) (fun p h1 h2 => hc p h1 (by omega))
    have hn : ended toll n rows (f + d) = false := hc (f + d) (by omega) (by omega)
    have e : (S toll n rows (f + d + 1)).sums = grown (S toll n rows (f + d)) (row rows (f + d)) := by
      show (if ending toll n (S toll n rows (f + d)) (row rows (f + d)) then _ else _) = _
      rw [if_neg (by rw [show ending toll n (S toll n rows (f + d)) (row rows (f + d)) = false from hn]; exact Bool.false_ne_true)]
    rw [show f + (d + 1) = f + d + 1 by omega, e]
    exact grown_col G (by omega) (by omega) ih k hk
/-- at a row that ends a phase all sums have reached the toll -/
theorem end_all {e : Nat} (h : ended toll n rows e = true) : ∀ k, k < n → toll ≤ at0 (grown (S toll n rows e) (row rows e)) k := by
  intro k hk
  have h2 : (low toll n (grown (S toll n rows e) (row rows e))).isEmpty = true := by
    have z : ending toll n (S toll n rows e) (row rows e) = true := h
    unfold ending at z
    exact (Bool.and_eq_true_iff.mp z).2
  apply Int.not_lt.mp
  intro hlt
  have : k ∈ low toll n (grown (S toll n rows e) (row rows e)) := mem_low.mpr ⟨hk, hlt⟩
  rw [List.isEmpty_iff.mp h2] at this
  cases this

/-! ### what is paid -/
/-- what a phase may have cost, by its sums -/
def pot (toll : Int) (x : Int) : Int := if x < toll then x else 2 * toll - 1
def Pot (toll : Int) (n : Nat) (f : Nat → Int) : Int := ((List.range n).map fun k => pot toll (f k)).sum
theorem Pot_succ (f : Nat → Int) (m : Nat) : Pot toll (m + 1) f = Pot toll m f + pot toll (f m) := by
  unfold Pot
  rw [List.range_succ, List.map_append, List.map_singleton, sum_snoc]
theorem pot_mono (t1 : 1 ≤ toll) {x y : Int} (h : x ≤ y) : pot toll x ≤ pot toll y := by
  unfold pot
  split <;> split <;> omega
theorem Pot_mono (t1 : 1 ≤ toll) {f g : Nat → Int} : ∀ m, (∀ k, k < m → f k ≤ g k) → Pot toll m f ≤ Pot toll m g
  | 0, _ => Int.le_refl _
  | m + 1, h => by
    rw [Pot_succ, Pot_succ]
    have a := Pot_mono t1 m fun k hk => h k (Nat.lt_succ_of_lt hk)
    have b := pot_mono t1 (h m (Nat.lt_succ_self m))
    omega
/-- one place's gain over the others' -/
theorem Pot_gain (t1 : 1 ≤ toll) {f g : Nat → Int} {i : Nat} {c : Int} : ∀ m, (∀ k, k < m → f k ≤ g k) → i < m → pot toll (f i) + c ≤ pot toll (g i) → Pot toll m f + c ≤ Pot toll m g
  | 0, _, h, _ => by omega
  | m + 1, h, hi, hc => by
    rw [Pot_succ, Pot_succ]
    by_cases e : i = m
    · subst e
      have a := Pot_mono t1 i fun k hk => h k (Nat.lt_succ_of_lt hk)
      omega
    · have a := Pot_gain t1 m (fun k hk => h k (Nat.lt_succ_of_lt hk)) (by omega) hc
      have b := pot_mono t1 (h m (Nat.lt_succ_self m))
      omega
theorem Pot_gain2 (t1 : 1 ≤ toll) {f g : Nat → Int} {i j : Nat} {c d : Int} : ∀ m, (∀ k, k < m → f k ≤ g k) → i < m → j < m → i ≠ j → pot toll (f i) + c ≤ pot toll (g i) → pot toll (f j) + d ≤ pot toll (g j) → Pot toll m f + (c + d) ≤ Pot toll m g
  | 0, _, h, _, _, _, _ => by omega
  | m + 1, h, hi, hj, hij, hc, hd => by
    rw [Pot_succ, Pot_succ]
    by_cases e : i = m
    · subst e
      have a := Pot_gain t1 (i := j) (c := d) i (fun k hk => h k (Nat.lt_succ_of_lt hk)) (by omega) hd
      omega
    · by_cases e2 : j = m
      · subst e2
        have a := Pot_gain t1 (i := i) (c := c) j (fun k hk => h k (Nat.lt_succ_of_lt hk)) (by omega) hc
        omega
      · have a := Pot_gain2 t1 m (fun k hk => h k (Nat.lt_succ_of_lt hk)) (by omega) (by omega) hij hc hd
        have b := pot_mono t1 (h m (Nat.lt_succ_self m))
        omega
/-- no more than this, one kind's sum being below the toll -/
theorem Pot_le {f : Nat → Int} (t1 : 1 ≤ toll) : ∀ m, Pot toll m f ≤ (m : Int) * (2 * toll - 1)
  | 0 => by
    show (0 : Int) ≤ _
    simp
  | m + 1 => by
    rw [Pot_succ]
    have a := Pot_le (f := f) t1 m
    have b : pot toll (f m) ≤ 2 * toll - 1 := by
      unfold pot
      split <;> omega
    have c : ((m + 1 : Nat) : Int) * (2 * toll - 1) = (m : Int) * (2 * toll - 1) + (2 * toll - 1) := by
      rw [Int.natCast_add, Int.add_mul]
      simp
    omega
theorem Pot_le1 {f : Nat → Int} (t1 : 1 ≤ toll) {i : Nat} : ∀ m, i < m → f i < toll → Pot toll m f ≤ (m : Int) * (2 * toll - 1) - toll
  | 0, h, _ => by omega
  | m + 1, hi, hf => by
    rw [Pot_succ]
    have c : ((m + 1 : Nat) : Int) * (2 * toll - 1) = (m : Int) * (2 * toll - 1) + (2 * toll - 1) := by
      rw [Int.natCast_add, Int.add_mul]
      simp
    by_cases e : i = m
    · subst e
      have a := Pot_le (f := f) t1 i
      have b : pot toll (f i) ≤ toll - 1 := by
        unfold pot
        rw [if_pos hf]
        omega
      omega
    · have a := Pot_le1 (f := f) t1 m (by omega) hf
      have b : pot toll (f m) ≤ 2 * toll - 1 := by
        unfold pot
        split <;> omega
      omega
theorem phase_paid (G : Good toll n rows) {f : Nat} (hF : Fresh toll n rows f) : ∀ d, f + d ≤ rows.length → Calm toll n rows f (f + d) →
    (S toll n rows (f + d)).paid - (S toll n rows f).paid ≤ Pot toll n fun k => at0 (S toll n rows (f + d)).sums k
  | 0, _, _ => by
    rw [Nat.add_zero, Int.sub_self]
    have : ∀ m, (0 ≤ Pot toll m fun k => at0 (S toll n rows f).sums k) ∨ n < m := by
      intro m
      induction m with
      | zero => exact .inl (Int.le_refl _)
      | succ m ih =>
        rcases ih with ih | ih
        · by_cases hm : m < n
          · refine .inl ?_
            rw [Pot_succ, hF]
            have : pot toll (at0 (List.replicate n 0) m) = 0 := by
              rw [at0_rep hm]
              unfold pot
              rw [if_pos (Int.lt_of_lt_of_le Int.zero_lt_one G.t1)]
            rw [this, ← hF]
            omega
          · exact .inr (by omega)
        · exact .inr (by omega)
    rcases this n with h | h
    · exact h
    · exact absurd h (Nat.lt_irrefl n)
  | d + 1, hd, hc => by
    have ih := phase_paid G hF d (by omega) (fun p h1 h2 => hc p h1 (by omega))
    have hn : ended toll n rows (f + d) = false := hc (f + d) (by omega) (by omega)
    have hm : f + d < rows.length := by omega
    have o := S_ok G (f + d) (Nat.le_of_lt hm)
    rw [show f + (d + 1) = f + d + 1 by omega]
    generalize hs : S toll n rows (f + d) = s at ih o
    generalize hr : row rows (f + d) = r
    have hrl : r.length = n := by
      rw [← hr]
      exact G.len _ hm
    have hpos : ∀ k, k < n → 1 ≤ at0 r k := by
      rw [← hr]
      exact G.pos _ hm
    have he : ending toll n s r = false := by
      rw [← hs, ← hr]
      exact hn
    have hS : S toll n rows (f + d + 1) = step toll n s r := by
      rw [← hs, ← hr]
      rfl
    rw [hS]
    have e : (step toll n s r).sums = grown s r := by
      show (if ending toll n s r then _ else _) = _
      rw [he, if_neg Bool.false_ne_true]
    have ep : (step toll n s r).paid = s.paid + (at0 r (nextKind toll n s r) + turn toll s.kind (nextKind toll n s r)) := rfl
    have gk : ∀ k, k < n → at0 (grown s r) k = at0 s.sums k + at0 r k := fun k hk => by
      unfold grown
      rw [at0_zip (by rw [o.l]; exact hk) (by rw [hrl]; exact hk)]
    rw [e, ep]
    have mono : ∀ k, k < n → at0 s.sums k ≤ at0 (grown s r) k := fun k hk => by
      rw [gk k hk]
      have := hpos k hk
      omega
    by_cases h : at0 (grown s r) s.kind < toll
    · have ek : nextKind toll n s r = s.kind := by
        unfold nextKind
        rw [if_pos h]
      rw [ek]
      have et : turn toll s.kind s.kind = 0 := by
        unfold turn
        rw [if_pos rfl]
      have gn := Pot_gain G.t1 (f := fun k => at0 s.sums k) (g := fun k => at0 (grown s r) k) (i := s.kind) (c := at0 r s.kind) n mono o.k (by
        show pot toll (at0 s.sums s.kind) + _ ≤ pot toll (at0 (grown s r) s.kind)
        unfold pot
        rw [if_pos h, if_pos o.a, gk s.kind o.k]
        exact Int.le_refl _)
      rw [et]
      omega
    · have hl : (low toll n (grown s r)).isEmpty = false := by
        unfold ending at he
        rw [decide_eq_true h, Bool.true_and] at he
        exact he
      have ek : nextKind toll n s r = firstLeast (grown s r) (low toll n (grown s r)) := by
        unfold nextKind
        rw [if_neg h, hl, if_neg Bool.false_ne_true]
      have hj := mem_low.mp (firstLeast_mem (r := grown s r) (places := low toll n (grown s r)) (by
        intro z
        rw [z] at hl
        cases hl)).1
      rw [← ek] at hj
      generalize nextKind toll n s r = j at hj ek
      have hij : s.kind ≠ j := fun z => h (by rw [z]; exact hj.2)
      have et := turn_nn (toll := toll) (by have := G.t1; omega) s.kind j
      have hp := hpos s.kind o.k
      have oa := o.a
      have gk1 := gk s.kind o.k
      have gj := gk j hj.1
      have hpj := hpos j hj.1
      have gn := Pot_gain2 G.t1 (f := fun k => at0 s.sums k) (g := fun k => at0 (grown s r) k) (i := s.kind) (j := j) (c := toll) (d := at0 r j) n mono o.k hj.1 hij (by
        show pot toll (at0 s.sums s.kind) + toll ≤ pot toll (at0 (grown s r) s.kind)
        unfold pot
        rw [if_neg h, if_pos o.a]
        omega) (by
        show pot toll (at0 s.sums j) + _ ≤ pot toll (at0 (grown s r) j)
        have : at0 s.sums j < toll := by
          have := hj.2
          omega
        unfold pot
        rw [if_pos hj.2, if_pos this, gj]
        exact Int.le_refl _)
      omega
/-- an open phase costs less than so much -/
theorem open_paid (G : Good toll n rows) {f m : Nat} (hF : Fresh toll n rows f) (hfm : f ≤ m) (hm : m ≤ rows.length) (hc : Calm toll n rows f m) :
    (S toll n rows m).paid - (S toll n rows f).paid ≤ (n : Int) * (2 * toll - 1) - toll := by
  have e : f + (m - f) = m := by omega
  have a := phase_paid G hF (m - f) (by omega) (by rw [e]; exact hc)
  rw [e] at a
  have o := S_ok G m hm
  have b := Pot_le1 (toll := toll) (f := fun k => at0 (S toll n rows m).sums k) G.t1 n o.k o.a
  omega
theorem range_ne (h : 1 ≤ n) : List.range n ≠ [] := fun e => by
  rw [List.range_eq_nil] at e
  omega
theorem leastOf_range {r : List Int} (h : r.length = n) : leastOf r (List.range n) = lmin r := by
  unfold leastOf
  have : (List.range n).map (at0 r) = r := by
    apply List.ext_getElem
    · simp [h]
    · intro i h1 h2
      simp [at0, h2]
  rw [this]
theorem end_kind (G : Good toll n rows) {e : Nat} (he : e < rows.length) (h : ended toll n rows e = true) : at0 (row rows e) (S toll n rows (e + 1)).kind = lmin (row rows e) := by
  have hz : ending toll n (S toll n rows e) (row rows e) = true := h
  unfold ending at hz
  obtain ⟨h1, h2⟩ := Bool.and_eq_true_iff.mp hz
  show at0 (row rows e) (nextKind toll n (S toll n rows e) (row rows e)) = _
  unfold nextKind
  rw [if_neg (of_decide_eq_true h1), if_pos h2]
  split
  · assumption
  · rw [(firstLeast_mem (range_ne G.n1)).2, leastOf_range (G.len e he)]
/-- an ended phase pays less than two tolls a kind, and its last row's least -/
theorem end_paid (G : Good toll n rows) {f e : Nat} (hF : Fresh toll n rows f) (hfe : f ≤ e) (he : e < rows.length) (hc : Calm toll n rows f e) (h : ended toll n rows e = true) :
    (S toll n rows (e + 1)).paid - (S toll n rows f).paid ≤ (n : Int) * (2 * toll - 1) + lmin (row rows e) := by
  have a := open_paid G hF hfe (Nat.le_of_lt he) hc
  have b := end_kind G he h
  have ep : (S toll n rows (e + 1)).paid = (S toll n rows e).paid + (at0 (row rows e) (S toll n rows (e + 1)).kind + turn toll (S toll n rows e).kind (S toll n rows (e + 1)).kind) := rfl
  have t := turn_nn (toll := toll) (by have := G.t1; omega) (S toll n rows e).kind (S toll n rows (e + 1)).kind
  rw [ep, b]
  omega

/-! ### what no choice goes below -/
/-- what a choice c has cost ahead of row m -/
def prev (c : Nat → Nat) (m : Nat) : Nat := if m = 0 then 0 else c (m - 1)
def C (toll : Int) (rows : List (List Int)) (c : Nat → Nat) : Nat → Int
  | 0 => 0
  | m + 1 => C toll rows c m + (at0 (row rows m) (c m) + turn toll (prev c m) (c m))
theorem C_mono (G : Good toll n rows) {c : Nat → Nat} (hc : ∀ p, p < rows.length → c p < n) {a : Nat} : ∀ d, a + d ≤ rows.length → C toll rows c a ≤ C toll rows c (a + d)
  | 0, _ => Int.le_refl _
  | d + 1, h => by
    have ih := C_mono G hc (a := a) d (by omega)
    have p1 := G.pos (a + d) (by omega) (c (a + d)) (hc _ (by omega))
    have t := turn_nn (toll := toll) (by have := G.t1; omega) (prev c (a + d)) (c (a + d))
    show _ ≤ C toll rows c (a + d) + (at0 (row rows (a + d)) (c (a + d)) + turn toll (prev c (a + d)) (c (a + d)))
    omega
theorem C_le (G : Good toll n rows) {c : Nat → Nat} (hc : ∀ p, p < rows.length → c p < n) {a b : Nat} (h : a ≤ b) (hb : b ≤ rows.length) : C toll rows c a ≤ C toll rows c b := by
  have z := C_mono G hc (a := a) (b - a) (by omega)
  rw [show a + (b - a) = b by omega] at z
  exact z
/-- from f on it either stays at one kind, or has paid a toll -/
theorem stays (G : Good toll n rows) {c : Nat → Nat} (hc : ∀ p, p < rows.length → c p < n) {f : Nat} : ∀ d, f + d ≤ rows.length →
    toll ≤ C toll rows c (f + d) - C toll rows c f ∨ ((d = 0 ∨ prev c (f + d) = prev c f) ∧ (0 < d → prev c f < n) ∧ C toll rows c (f + d) - C toll rows c f = col rows (prev c f) f (f + d))
  | 0, _ => .inr ⟨.inl rfl, fun h => absurd h (Nat.lt_irrefl 0), by rw [Nat.add_zero, col_self, Int.sub_self]⟩
  | d + 1, h => by
    have ih := stays G hc (f := f) d (by omega)
    have eC : C toll rows c (f + (d + 1)) = C toll rows c (f + d) + (at0 (row rows (f + d)) (c (f + d)) + turn toll (prev c (f + d)) (c (f + d))) := rfl
    have p1 := G.pos (f + d) (by omega) (c (f + d)) (hc _ (by omega))
    have t := turn_nn (toll := toll) (by have := G.t1; omega) (prev c (f + d)) (c (f + d))
    rcases ih with ih | ⟨i1, i2, i3⟩
    · left
      omega
    · have ep : prev c (f + d) = prev c f := by
        rcases i1 with z | z
        · rw [z, Nat.add_zero]
        · exact z
      by_cases hk : c (f + d) = prev c f
      · right
        refine ⟨.inr ?_, fun _ => by rw [← hk]; exact hc _ (by omega), ?_⟩
        · show prev c (f + d + 1) = _
          unfold prev
          rw [if_neg (by omega)]
          exact hk
        · have et : turn toll (prev c (f + d)) (c (f + d)) = 0 := by
            unfold turn
            rw [if_pos (by rw [ep, hk])]
          rw [eC, et, show f + (d + 1) = f + d + 1 by omega, col_succ rows _ (by omega), hk]
          omega
      · left
        have et : turn toll (prev c (f + d)) (c (f + d)) = toll := by
          unfold turn
          rw [if_neg (by rw [ep]; exact fun z => hk z.symm)]
        have m := C_le G hc (a := f) (b := f + d) (by omega) (by omega)
        rw [eC, et]
        omega
def biggest (a b : Int) : Int := if b > a then b else a
theorem biggest_ge (a b : Int) : a ≤ biggest a b ∧ b ≤ biggest a b := by
  unfold biggest
  split <;> omega
theorem biggest_le {a b c : Int} (h1 : a ≤ c) (h2 : b ≤ c) : biggest a b ≤ c := by
  unfold biggest
  split <;> assumption
/-- an ended phase costs any choice the toll, and its last row's least -/
theorem end_cost (G : Good toll n rows) {c : Nat → Nat} (hc : ∀ p, p < rows.length → c p < n) {f e : Nat} (hF : Fresh toll n rows f) (hfe : f ≤ e) (he : e < rows.length) (hcl : Calm toll n rows f e) (h : ended toll n rows e = true) :
    biggest toll (lmin (row rows e)) ≤ C toll rows c (e + 1) - C toll rows c f := by
  have eC : C toll rows c (e + 1) = C toll rows c e + (at0 (row rows e) (c e) + turn toll (prev c e) (c e)) := rfl
  have t := turn_nn (toll := toll) (by have := G.t1; omega) (prev c e) (c e)
  have m := C_le G hc hfe (Nat.le_of_lt he)
  refine biggest_le ?_ ?_
  · have st := stays G hc (f := f) (e + 1 - f) (by omega)
    rw [show f + (e + 1 - f) = e + 1 by omega] at st
    rcases st with z | ⟨_, z2, z3⟩
    · exact z
    · rw [z3]
      have hk := z2 (by omega)
      have sc := sums_col G hF (e - f) (by omega) (by rw [show f + (e - f) = e by omega]; exact hcl)
      rw [show f + (e - f) = e by omega] at sc
      rw [← grown_col G hfe he sc _ hk]
      exact end_all h _ hk
  · have : lmin (row rows e) ≤ at0 (row rows e) (c e) := lmin_le (by
      unfold at0
      have hl : c e < (row rows e).length := by
        rw [G.len e he]
        exact hc e he
      rw [List.getD_eq_getElem?_getD, List.getElem?_eq_getElem hl]
      exact List.getElem_mem hl)
    rw [eC]
    omega
/-- what the phases that end ahead of row m cost any choice at least -/
def Gs (toll : Int) (n : Nat) (rows : List (List Int)) (m : Nat) : Int := (((List.range m).filter (ended toll n rows)).map fun e => biggest toll (lmin (row rows e))).sum
theorem Gs_succ (m : Nat) : Gs toll n rows (m + 1) = Gs toll n rows m + (if ended toll n rows m = true then biggest toll (lmin (row rows m)) else 0) := by
  unfold Gs
  rw [List.range_succ, List.filter_append, List.map_append, List.sum_append]
  cases h : ended toll n rows m <;> simp [h]
/-- where the phase began that is open ahead of row m -/
structure Begun (toll : Int) (n : Nat) (rows : List (List Int)) (f m : Nat) : Prop where
  le : f ≤ m
  fr : Fresh toll n rows f
  ca : Calm toll n rows f m
theorem phases (G : Good toll n rows) : ∀ m, m ≤ rows.length → ∃ f, Begun toll n rows f m ∧
    (∀ c : Nat → Nat, (∀ p, p < rows.length → c p < n) → Gs toll n rows m ≤ C toll rows c f) ∧ (S toll n rows f).paid ≤ (2 * (n : Int) + 1) * Gs toll n rows m
  | 0, _ => ⟨0, ⟨Nat.le_refl _, fresh_0, fun p _ h => absurd h (Nat.not_lt_zero p)⟩, fun _ _ => Int.le_refl _, by
      show (0 : Int) ≤ (2 * (n : Int) + 1) * 0
      rw [Int.mul_zero]
      exact Int.le_refl _⟩
  | m + 1, hm => by
    obtain ⟨f, B, h1, h2⟩ := phases G m (Nat.le_of_succ_le hm)
    rw [Gs_succ]
    cases h : ended toll n rows m with
    | false =>
      refine ⟨f, ⟨Nat.le_succ_of_le B.le, B.fr, fun p p1 p2 => ?_⟩, fun c hc => ?_, ?_⟩
      · by_cases e : p = m
        · rw [e]
          exact h
        · exact B.ca p p1 (by omega)
      · rw [if_neg Bool.false_ne_true, Int.add_zero]
        exact h1 c hc
      · rw [if_neg Bool.false_ne_true, Int.add_zero]
        exact h2
    | true =>
      refine ⟨m + 1, ⟨Nat.le_refl _, fresh_end h, fun p p1 p2 => by omega⟩, fun c hc => ?_, ?_⟩
      · rw [if_pos rfl]
        have a := end_cost G hc B.fr B.le hm B.ca h
        have b := h1 c hc
        omega
      · rw [if_pos rfl]
        have a := end_paid G B.fr B.le hm B.ca h
        have g := biggest_ge toll (lmin (row rows m))
        have t1 := G.t1
        have e1 : (2 * (n : Int) + 1) * (Gs toll n rows m + biggest toll (lmin (row rows m))) = (2 * (n : Int) + 1) * Gs toll n rows m + (2 * ((n : Int) * biggest toll (lmin (row rows m))) + biggest toll (lmin (row rows m))) := by
          rw [Int.mul_add, Int.add_mul (2 * (n : Int)) 1 (biggest toll (lmin (row rows m))), Int.one_mul, Int.mul_assoc 2 (n : Int) (biggest toll (lmin (row rows m)))]
        have e2 : (n : Int) * (2 * toll - 1) = 2 * ((n : Int) * toll) - n := by
          rw [Int.mul_sub, Int.mul_one, ← Int.mul_assoc, Int.mul_comm (n : Int) 2, Int.mul_assoc]
        have e3 : (n : Int) * toll ≤ (n : Int) * biggest toll (lmin (row rows m)) := Int.mul_le_mul_of_nonneg_left g.1 (by omega)
        rw [e1]
        rw [e2] at a
        omega
/-- phases_cost is no more than any choice costs -/
theorem lower (G : Good toll n rows) {c : Nat → Nat} (hc : ∀ p, p < rows.length → c p < n) : Gs toll n rows rows.length ≤ C toll rows c rows.length := by
  obtain ⟨f, B, h1, _⟩ := phases G rows.length (Nat.le_refl _)
  have a := h1 c hc
  have b := C_le G hc B.le (Nat.le_refl _)
  omega
/-- what is paid under way is no more than this -/
theorem upper (G : Good toll n rows) : (S toll n rows rows.length).paid ≤ (2 * (n : Int) + 1) * Gs toll n rows rows.length + 2 * ((n : Int) * toll) := by
  obtain ⟨f, B, _, h2⟩ := phases G rows.length (Nat.le_refl _)
  have a := open_paid G B.fr B.le (Nat.le_refl _) B.ca
  have e2 : (n : Int) * (2 * toll - 1) = 2 * ((n : Int) * toll) - n := by
    rw [Int.mul_sub, Int.mul_one, ← Int.mul_assoc, Int.mul_comm (n : Int) 2, Int.mul_assoc]
  have := G.t1
  omega
end
end UM
/-! UCheap: the papers of the cheapest choice, in plain numbers. -/
namespace UM
open Ts
def bk (toll : Int) (n : Nat) (r later : List Int) (a : Nat) : List Int := (List.range n).map fun k => at0 r k + at0 later k + turn toll a k
def top (toll : Int) (n : Nat) : List (List Int) → List Int
  | [] => List.replicate n 0
  | r :: rs => (List.range n).map fun a => lmin (bk toll n r (top toll n rs) a)
def pap (toll : Int) (n : Nat) : List (List Int) → List (List Int)
  | [] => [top toll n []]
  | r :: rs => top toll n (r :: rs) :: pap toll n rs
def D (toll : Int) : Nat → List (List Int) → List Nat → Int
  | a, r :: rs, k :: c => at0 r k + turn toll a k + D toll k rs c
  | _, _, _ => 0
variable {toll : Int} {n : Nat}
theorem top_len : ∀ rows : List (List Int), (top toll n rows).length = n
  | [] => List.length_replicate
  | r :: rs => by
    show ((List.range n).map _).length = n
    rw [List.length_map, List.length_range]
theorem at0_map {f : Nat → Int} {k : Nat} (h : k < n) : at0 ((List.range n).map f) k = f k := by
  unfold at0
  rw [List.getD_eq_getElem?_getD, List.getElem?_map, List.getElem?_range h]
  rfl
theorem at0_top {r : List Int} {rs : List (List Int)} {a : Nat} (h : a < n) : at0 (top toll n (r :: rs)) a = lmin (bk toll n r (top toll n rs) a) := at0_map h
theorem bk_ne (n1 : 1 ≤ n) (r l : List Int) (a : Nat) : bk toll n r l a ≠ [] := by
  unfold bk
  simp only [ne_eq, List.map_eq_nil_iff, List.range_eq_nil]
  omega
theorem bk_least (n1 : 1 ≤ n) (r l : List Int) (a : Nat) : ∃ k, k < n ∧ lmin (bk toll n r l a) = at0 r k + at0 l k + turn toll a k := by
  have hne : bk toll n r l a ≠ [] := bk_ne n1 r l a
  have hm := lmin_mem hne
  obtain ⟨k, hk, e⟩ := List.mem_map.mp hm
  exact ⟨k, List.mem_range.mp hk, e.symm⟩
theorem top_found (n1 : 1 ≤ n) : ∀ (rows : List (List Int)) (a : Nat), a < n → ∃ c : List Nat, c.length = rows.length ∧ (∀ k ∈ c, k < n) ∧ at0 (top toll n rows) a = D toll a rows c
  | [], a, h => ⟨[], rfl, (fun k m => nomatch m), at0_rep h⟩
  | r :: rs, a, h => by
    obtain ⟨k, hk, e⟩ := bk_least (toll := toll) n1 r (top toll n rs) a
    obtain ⟨c, hc, hl, ec⟩ := top_found n1 rs k hk
    refine ⟨k :: c, by simp [hc], fun x hx => ?_, ?_⟩
    · rcases List.mem_cons.mp hx with q | q
      · rw [q]
        exact hk
      · exact hl x q
    · rw [at0_top h, e, ec]
      show _ = at0 r k + turn toll a k + D toll k rs c
      omega
theorem D_C {rows : List (List Int)} {c : List Nat} (hc : c.length = rows.length) : ∀ m, m ≤ rows.length → C toll rows (fun p => c.getD p 0) m + D toll (prev (fun p => c.getD p 0) m) (rows.drop m) (c.drop m) = D toll 0 rows c
  | 0, _ => by
    show (0 : Int) + D toll (prev _ 0) rows c = _
    rw [show prev (fun p => c.getD p 0) 0 = 0 from if_pos rfl]
    omega
  | m + 1, h => by
    have ih := D_C hc m (by omega)
    have h1 : m < rows.length := h
    have h2 : m < c.length := by omega
    rw [List.drop_eq_getElem_cons h1, List.drop_eq_getElem_cons h2] at ih
    rw [← ih]
    have er : rows[m] = row rows m := by
      unfold row
      rw [List.getD_eq_getElem?_getD, List.getElem?_eq_getElem h1]
      rfl
    have ek : c[m] = c.getD m 0 := by
      rw [List.getD_eq_getElem?_getD, List.getElem?_eq_getElem h2]
      rfl
    have ep : prev (fun p => c.getD p 0) (m + 1) = c.getD m 0 := if_neg (Nat.succ_ne_zero m)
    show C toll rows _ m + (at0 (row rows m) (c.getD m 0) + turn toll (prev _ m) (c.getD m 0)) + _ = C toll rows _ m + (at0 rows[m] c[m] + turn toll (prev _ m) c[m] + D toll c[m] (rows.drop (m + 1)) (c.drop (m + 1)))
    rw [ep, er, ek]
    omega
theorem C_D {rows : List (List Int)} {c : List Nat} (hc : c.length = rows.length) : C toll rows (fun p => c.getD p 0) rows.length = D toll 0 rows c := by
  rw [← D_C hc rows.length (Nat.le_refl _), List.drop_length]
  show _ = _ + (0 : Int)
  omega
/-- the cheapest is not below what no choice goes below -/
theorem cheapest_ge {rows : List (List Int)} (G : Good toll n rows) : Gs toll n rows rows.length ≤ at0 (top toll n rows) 0 := by
  obtain ⟨c, hc, hl, e⟩ := top_found (toll := toll) G.n1 rows 0 G.n1
  rw [e, ← C_D hc]
  refine lower G fun p hp => ?_
  have h2 : p < c.length := by omega
  show c.getD p 0 < n
  rw [List.getD_eq_getElem?_getD, List.getElem?_eq_getElem h2]
  exact hl _ (List.getElem_mem h2)
theorem pap_len : ∀ rows : List (List Int), (pap toll n rows).length = rows.length + 1
  | [] => rfl
  | r :: rs => by
    show (pap toll n rs).length + 1 = _
    rw [pap_len rs]
    rfl
theorem pap_get : ∀ (rows : List (List Int)) (i : Nat), i ≤ rows.length → (pap toll n rows)[i]? = some (top toll n (rows.drop i))
  | [], 0, _ => rfl
  | [], i + 1, h => absurd h (Nat.not_succ_le_zero _)
  | r :: rs, 0, _ => rfl
  | r :: rs, i + 1, h => by
    show (pap toll n rs)[i]? = _
    exact pap_get rs i (Nat.le_of_succ_le_succ h)
theorem top_drop {rows : List (List Int)} {i : Nat} (h : i < rows.length) : top toll n (rows.drop i) = (List.range n).map fun a => lmin (bk toll n (row rows i) (top toll n (rows.drop (i + 1))) a) := by
  rw [List.drop_eq_getElem_cons h]
  have er : rows[i] = row rows i := by
    unfold row
    rw [List.getD_eq_getElem?_getD, List.getElem?_eq_getElem h]
    rfl
  rw [← er]
  rfl
end UM
/-! UParts: the phases one by one, as the law reads them off the told row numbers. -/
namespace UM
open Ts
def fst (es : List Nat) (k : Nat) : Nat := if k = 0 then 0 else es.getD (k - 1) 0 + 1
section
variable {toll : Int} {n : Nat} {rows : List (List Int)}
theorem ends_rise : (ends toll n rows).Pairwise (· < ·) := by
  unfold ends
  exact List.Pairwise.filter _ List.pairwise_lt_range
theorem mem_ends {e : Nat} : e ∈ ends toll n rows ↔ e < rows.length ∧ ended toll n rows e = true := by
  unfold ends
  rw [List.mem_filter, List.mem_range]
theorem getD_lt {l : List Nat} {k : Nat} (h : k < l.length) : l.getD k 0 = l[k] := by
  rw [List.getD_eq_getElem?_getD, List.getElem?_eq_getElem h]
  rfl
theorem rise_lt {es : List Nat} (h : es.Pairwise (· < ·)) {i j : Nat} (hij : i < j) (hj : j < es.length) : es.getD i 0 < es.getD j 0 := by
  rw [getD_lt hj, getD_lt (Nat.lt_trans hij hj)]
  exact List.pairwise_iff_getElem.mp h i j (by omega) hj hij
theorem ends_get {k : Nat} (h : k < (ends toll n rows).length) : (ends toll n rows).getD k 0 < rows.length ∧ ended toll n rows ((ends toll n rows).getD k 0) = true := by
  rw [getD_lt h]
  exact mem_ends.mp (List.getElem_mem h)
theorem fresh_fst {k : Nat} (h : k ≤ (ends toll n rows).length) : Fresh toll n rows (fst (ends toll n rows) k) := by
  unfold fst
  by_cases e : k = 0
  · rw [if_pos e]
    exact fresh_0
  · rw [if_neg e]
    exact fresh_end (ends_get (by omega)).2
theorem fst_le {k : Nat} (h : k ≤ (ends toll n rows).length) : fst (ends toll n rows) k ≤ rows.length := by
  unfold fst
  by_cases e : k = 0
  · rw [if_pos e]
    exact Nat.zero_le _
  · rw [if_neg e]
    exact (ends_get (by omega)).1
theorem fst_end {k : Nat} (h : k < (ends toll n rows).length) : fst (ends toll n rows) k ≤ (ends toll n rows).getD k 0 := by
  unfold fst
  by_cases e : k = 0
  · rw [if_pos e]
    exact Nat.zero_le _
  · rw [if_neg e]
    exact rise_lt ends_rise (by omega) h
/-- where no phase ends -/
theorem calm_to {k b : Nat} (hk : k ≤ (ends toll n rows).length) (hb : b ≤ rows.length) (hb2 : ∀ j, k ≤ j → j < (ends toll n rows).length → b ≤ (ends toll n rows).getD j 0) : Calm toll n rows (fst (ends toll n rows) k) b := by
  intro p hf hp
  cases e : ended toll n rows p with
  | false => rfl
  | true =>
    have hm := mem_ends.mpr ⟨Nat.lt_of_lt_of_le hp hb, e⟩
    obtain ⟨j, hj, ej⟩ := List.getElem_of_mem hm
    rw [← getD_lt hj] at ej
    by_cases hkj : k ≤ j
    · have := hb2 j hkj hj
      omega
    · exfalso
      unfold fst at hf
      rw [if_neg (by omega)] at hf
      by_cases q : j = k - 1
      · rw [← q, ej] at hf
        omega
      · have := rise_lt (ends_rise (toll := toll) (n := n) (rows := rows)) (i := j) (j := k - 1) (by omega) (by omega)
        omega
theorem calm_in {k : Nat} (h : k < (ends toll n rows).length) : Calm toll n rows (fst (ends toll n rows) k) ((ends toll n rows).getD k 0) :=
  calm_to (Nat.le_of_lt h) (Nat.le_of_lt (ends_get h).1) fun j h1 h2 => by
    by_cases e : k = j
    · rw [e]
      exact Nat.le_refl _
    · exact Nat.le_of_lt (rise_lt ends_rise (by omega) h2)
theorem calm_last : Calm toll n rows (fst (ends toll n rows) (ends toll n rows).length) rows.length :=
  calm_to (Nat.le_refl _) (Nat.le_refl _) fun j h1 h2 => by omega
def colsOf (n : Nat) (rows : List (List Int)) (f b : Nat) : List Int := (List.range n).map fun k => col rows k f b
theorem colsOf_ne (h : 1 ≤ n) (f b : Nat) : colsOf n rows f b ≠ [] := by
  unfold colsOf
  simp only [ne_eq, List.map_eq_nil_iff, List.range_eq_nil]
  omega
theorem low_sum (G : Good toll n rows) {f p : Nat} (hF : Fresh toll n rows f) (hfp : f ≤ p) (hp : p ≤ rows.length) (hc : Calm toll n rows f p) : lmin (colsOf n rows f p) < toll := by
  have o := S_ok G p hp
  have e : f + (p - f) = p := by omega
  have hs := sums_col G hF (p - f) (by omega) (by rw [e]; exact hc) _ o.k
  rw [e] at hs
  have hm : col rows (S toll n rows p).kind f p ∈ colsOf n rows f p := List.mem_map.mpr ⟨_, List.mem_range.mpr o.k, rfl⟩
  have := lmin_le hm
  have := o.a
  omega
theorem high_sum (G : Good toll n rows) {f e : Nat} (hF : Fresh toll n rows f) (hfe : f ≤ e) (he : e < rows.length) (hc : Calm toll n rows f e) (h : ended toll n rows e = true) : toll ≤ lmin (colsOf n rows f (e + 1)) := by
  have hm := lmin_mem (colsOf_ne (rows := rows) G.n1 f (e + 1))
  obtain ⟨k, hk, ek⟩ := List.mem_map.mp hm
  have hk' := List.mem_range.mp hk
  have q : f + (e - f) = e := by omega
  have hs := fun k hk => sums_col G hF (e - f) (by omega) (by rw [q]; exact hc) k hk
  rw [q] at hs
  have hg := grown_col G hfe he hs k hk'
  have := end_all h k hk'
  rw [← ek]
  show toll ≤ col rows k f (e + 1)
  omega
/-- what is paid under way is what its own choice costs -/
theorem C_congr {c d : Nat → Nat} : ∀ m, (∀ p, p < m → c p = d p) → C toll rows c m = C toll rows d m
  | 0, _ => rfl
  | m + 1, h => by
    have ih := C_congr m fun p hp => h p (by omega)
    have h1 := h m (Nat.lt_succ_self m)
    have h2 : prev c m = prev d m := by
      unfold prev
      by_cases e : m = 0
      · rw [if_pos e, if_pos e]
      · rw [if_neg e, if_neg e]
        exact h _ (by omega)
    show C toll rows c m + (at0 (row rows m) (c m) + turn toll (prev c m) (c m)) = C toll rows d m + (at0 (row rows m) (d m) + turn toll (prev d m) (d m))
    rw [ih, h1, h2]
theorem S_paid : ∀ m, C toll rows (fun p => (S toll n rows (p + 1)).kind) m = (S toll n rows m).paid
  | 0 => rfl
  | m + 1 => by
    have ih := S_paid m
    have h2 : prev (fun p => (S toll n rows (p + 1)).kind) m = (S toll n rows m).kind := by
      unfold prev
      by_cases e : m = 0
      · rw [if_pos e, e]
        rfl
      · rw [if_neg e]
        show (S toll n rows (m - 1 + 1)).kind = _
        rw [show m - 1 + 1 = m by omega]
    show C toll rows _ m + (at0 (row rows m) (S toll n rows (m + 1)).kind + turn toll (prev _ m) (S toll n rows (m + 1)).kind) = _
    rw [ih, h2]
    rfl
/-- the bounds of what is paid -/
theorem C_bounds (t1 : 0 ≤ toll) {c : Nat → Nat} {M : Int} (hb : ∀ p, p < rows.length → 0 ≤ at0 (row rows p) (c p) ∧ at0 (row rows p) (c p) ≤ M) : ∀ m, m ≤ rows.length → 0 ≤ C toll rows c m ∧ C toll rows c m ≤ (m : Int) * (M + toll)
  | 0, _ => ⟨Int.le_refl _, by show (0 : Int) ≤ ((0 : Nat) : Int) * _; simp⟩
  | m + 1, h => by
    have ih := C_bounds t1 hb m (by omega)
    have h1 := hb m (by omega)
    have h2 := turn_nn t1 (prev c m) (c m)
    show 0 ≤ C toll rows c m + (at0 (row rows m) (c m) + turn toll (prev c m) (c m)) ∧ C toll rows c m + (at0 (row rows m) (c m) + turn toll (prev c m) (c m)) ≤ ((m + 1 : Nat) : Int) * (M + toll)
    have e : ((m + 1 : Nat) : Int) * (M + toll) = (m : Int) * (M + toll) + (M + toll) := by
      rw [Int.natCast_succ, Int.add_mul, Int.one_mul]
    rw [e]
    omega
end
end UM
/-! UBest: the choice that cheapest tells, and that none is cheaper. -/
namespace UM
open Ts
variable {toll : Int} {n : Nat} {rows : List (List Int)}
/-- the kinds that cheapest takes, one by one (0 ahead) -/
def bk1 (toll : Int) (n : Nat) (rows : List (List Int)) : Nat → Nat
  | 0 => 0
  | i + 1 => (bk toll n (row rows i) (top toll n (rows.drop (i + 1))) (bk1 toll n rows i)).idxOf (at0 (top toll n (rows.drop i)) (bk1 toll n rows i))
def best (toll : Int) (n : Nat) (rows : List (List Int)) : List Nat := (List.range rows.length).map fun i => bk1 toll n rows (i + 1)
theorem best_in (n1 : 1 ≤ n) {i : Nat} (hi : i < rows.length) {a : Nat} (ha : a < n) : at0 (top toll n (rows.drop i)) a ∈ bk toll n (row rows i) (top toll n (rows.drop (i + 1))) a := by
  rw [top_drop hi, at0_map ha]
  exact lmin_mem (bk_ne n1 _ _ _)
theorem bk_len {r l : List Int} {a : Nat} : (bk toll n r l a).length = n := by
  unfold bk
  rw [List.length_map, List.length_range]
theorem bk_get {r l : List Int} {a k : Nat} (h : k < n) : (bk toll n r l a)[k]? = some (at0 r k + at0 l k + turn toll a k) := by
  unfold bk
  rw [List.getElem?_map, List.getElem?_range h]
  rfl
theorem bk1_lt (n1 : 1 ≤ n) : ∀ i, i ≤ rows.length → bk1 toll n rows i < n
  | 0, _ => n1
  | i + 1, h => by
    have ih := bk1_lt n1 i (by omega)
    have hm := best_in (toll := toll) n1 (show i < rows.length by omega) ih
    have := List.idxOf_lt_length_iff.mpr hm
    rw [bk_len] at this
    exact this
theorem best_cost (n1 : 1 ≤ n) : ∀ m, m ≤ rows.length → C toll rows (fun p => bk1 toll n rows (p + 1)) m + at0 (top toll n (rows.drop m)) (bk1 toll n rows m) = at0 (top toll n rows) 0
  | 0, _ => by
    show (0 : Int) + at0 (top toll n rows) 0 = _
    omega
  | m + 1, h => by
    have ih := best_cost n1 m (by omega)
    have hlt := bk1_lt (toll := toll) (rows := rows) n1 m (by omega)
    have hm := best_in (toll := toll) n1 (show m < rows.length by omega) hlt
    have hj := List.idxOf_lt_length_iff.mpr hm
    have hg := List.getElem_idxOf hj
    have hk : bk1 toll n rows (m + 1) = (bk toll n (row rows m) (top toll n (rows.drop (m + 1))) (bk1 toll n rows m)).idxOf (at0 (top toll n (rows.drop m)) (bk1 toll n rows m)) := rfl
    have hg2 : (bk toll n (row rows m) (top toll n (rows.drop (m + 1))) (bk1 toll n rows m))[bk1 toll n rows (m + 1)]? = some (at0 (top toll n (rows.drop m)) (bk1 toll n rows m)) := by
      rw [hk, List.getElem?_eq_getElem hj, hg]
    have hj2 := bk1_lt (toll := toll) (rows := rows) n1 (m + 1) h
    rw [bk_get hj2] at hg2
    have hv := Option.some.inj hg2
    have hp : prev (fun p => bk1 toll n rows (p + 1)) m = bk1 toll n rows m := by
      unfold prev
      by_cases e : m = 0
      · rw [if_pos e, e]
        rfl
      · rw [if_neg e]
        show bk1 toll n rows (m - 1 + 1) = _
        rw [show m - 1 + 1 = m by omega]
    show C toll rows _ m + (at0 (row rows m) (bk1 toll n rows (m + 1)) + turn toll (prev _ m) (bk1 toll n rows (m + 1))) + _ = _
    rw [hp]
    omega
theorem best_len : (best toll n rows).length = rows.length := by
  unfold best
  rw [List.length_map, List.length_range]
theorem best_get {p : Nat} (h : p < rows.length) : (best toll n rows).getD p 0 = bk1 toll n rows (p + 1) := by
  unfold best
  rw [List.getD_eq_getElem?_getD, List.getElem?_map, List.getElem?_range h]
  rfl
theorem best_C (n1 : 1 ≤ n) : C toll rows (fun p => (best toll n rows).getD p 0) rows.length = at0 (top toll n rows) 0 := by
  have e := best_cost (toll := toll) (rows := rows) n1 rows.length (Nat.le_refl _)
  rw [List.drop_length] at e
  have z : at0 (top toll n []) (bk1 toll n rows rows.length) = 0 := at0_rep (bk1_lt n1 _ (Nat.le_refl _))
  rw [z] at e
  rw [C_congr rows.length fun p hp => best_get hp]
  omega
/-- no choice costs less than the papers' number -/
theorem top_le (n1 : 1 ≤ n) : ∀ (rows : List (List Int)) (c : List Nat) (a : Nat), a < n → c.length = rows.length → (∀ k ∈ c, k < n) → at0 (top toll n rows) a ≤ D toll a rows c
  | [], [], a, ha, _, _ => by
    have z : at0 (top toll n []) a = 0 := at0_rep ha
    rw [z]
    exact Int.le_refl _
  | [], _ :: _, _, _, h, _ => by simp at h
  | _ :: _, [], _, _, h, _ => by simp at h
  | r :: rs, k :: c, a, ha, h, hc => by
    have hk := hc k List.mem_cons_self
    have ih := top_le n1 rs c k hk (by simpa using h) fun x hx => hc x (List.mem_cons_of_mem _ hx)
    rw [at0_top ha]
    have hm : at0 r k + at0 (top toll n rs) k + turn toll a k ∈ bk toll n r (top toll n rs) a := List.mem_map.mpr ⟨k, List.mem_range.mpr hk, rfl⟩
    have := lmin_le hm
    show _ ≤ at0 r k + turn toll a k + D toll k rs c
    omega
theorem top_least (n1 : 1 ≤ n) {c : List Nat} (hc : c.length = rows.length) (hl : ∀ k ∈ c, k < n) : at0 (top toll n rows) 0 ≤ C toll rows (fun p => c.getD p 0) rows.length := by
  rw [C_D hc]
  exact top_le n1 rows c 0 n1 hc hl
end UM
/-! UOwn: the law's own turn is the turn of UMath. -/
namespace UM
open Ts
theorem head_fil {n : Nat} {q : Nat → Bool} {j : Nat} (hj : j < n) (h1 : q j = true) (h2 : ∀ m, m < j → q m = false) : ((List.range n).filter q).headD 0 = j := by
  have e : ((List.range n).filter q).head? = some j := by
    rw [List.head?_filter]
    exact List.find?_range_eq_some.mpr ⟨h1, List.mem_range.mpr hj, fun m hm => by rw [h2 m hm]; rfl⟩
  rw [List.headD_eq_head?_getD, e]
  rfl
theorem idx_ne : ∀ (g : List Int) (x : Int) (m : Nat), m < g.idxOf x → at0 g m ≠ x
  | [], _, _, h => nomatch h
  | y :: ys, x, m, h => by
    by_cases e : y = x
    · subst e
      rw [List.idxOf_cons_self] at h
      cases h
    · have hc : (y :: ys).idxOf x = ys.idxOf x + 1 := by
        rw [List.idxOf_cons, beq_false_of_ne e]
        rfl
      rw [hc] at h
      cases m with
      | zero => exact e
      | succ m => exact idx_ne ys x m (Nat.lt_of_succ_lt_succ h)
theorem idx_at {g : List Int} (hne : g ≠ []) : g.idxOf (lmin g) < g.length ∧ at0 g (g.idxOf (lmin g)) = lmin g ∧ ∀ m, m < g.idxOf (lmin g) → at0 g m ≠ lmin g := by
  have hl := List.idxOf_lt_length_of_mem (lmin_mem hne)
  refine ⟨hl, ?_, fun m hm e => ?_⟩
  · unfold at0
    rw [List.getD_eq_getElem?_getD, List.getElem?_eq_getElem hl]
    exact List.getElem_idxOf hl
  · exact idx_ne g _ m hm e
theorem least_fil {g : List Int} {n : Nat} (hn : g.length = n) (hne : g ≠ []) {p : Nat → Bool} (hp : p (g.idxOf (lmin g)) = true) : leastOf g ((List.range n).filter p) = lmin g := by
  obtain ⟨h1, h2, _⟩ := idx_at hne
  have hm : g.idxOf (lmin g) ∈ (List.range n).filter p := List.mem_filter.mpr ⟨List.mem_range.mpr (by omega), hp⟩
  have a1 : leastOf g ((List.range n).filter p) ≤ lmin g := by
    rw [← h2]
    exact lmin_le (List.mem_map.mpr ⟨_, hm, rfl⟩)
  have a2 : leastOf g ((List.range n).filter p) ∈ ((List.range n).filter p).map (at0 g) := lmin_mem fun e => by
    have := List.map_eq_nil_iff.mp e
    rw [this] at hm
    cases hm
  obtain ⟨q, hq, e⟩ := List.mem_map.mp a2
  have hqn := List.mem_range.mp (List.mem_filter.mp hq).1
  have a3 : lmin g ≤ at0 g q := by
    refine lmin_le ?_
    unfold at0
    rw [List.getD_eq_getElem?_getD, List.getElem?_eq_getElem (by omega)]
    exact List.getElem_mem _
  omega
theorem first_fil {g : List Int} {n : Nat} (hn : g.length = n) (hne : g ≠ []) {p : Nat → Bool} (hp : p (g.idxOf (lmin g)) = true) : firstLeast g ((List.range n).filter p) = g.idxOf (lmin g) := by
  obtain ⟨h1, h2, h3⟩ := idx_at hne
  unfold firstLeast
  rw [least_fil hn hne hp, List.filter_filter]
  refine head_fil (by omega) ?_ fun m hm => ?_
  · rw [hp, decide_eq_true h2]
    rfl
  · rw [decide_eq_false (h3 m hm)]
    rfl
theorem first_range {g : List Int} {n : Nat} (hn : g.length = n) (hne : g ≠ []) : firstLeast g (List.range n) = g.idxOf (lmin g) := by
  have h := first_fil (p := fun _ => true) hn hne rfl
  have e : (List.range n).filter (fun _ => true) = List.range n := by simp
  rw [e] at h
  exact h
theorem low_empty {toll : Int} {g : List Int} {n : Nat} (hn : g.length = n) (hne : g ≠ []) : (low toll n g).isEmpty = decide (¬ lmin g < toll) := by
  obtain ⟨h1, h2, _⟩ := idx_at hne
  by_cases h : lmin g < toll
  · rw [decide_eq_false (fun q => q h)]
    have hm : g.idxOf (lmin g) ∈ low toll n g := mem_low.mpr ⟨by omega, by omega⟩
    cases e : low toll n g with
    | nil =>
      rw [e] at hm
      cases hm
    | cons a b => rfl
  · rw [decide_eq_true h]
    cases e : low toll n g with
    | nil => rfl
    | cons a b =>
      have hm : a ∈ low toll n g := by
        rw [e]
        exact List.mem_cons_self
      obtain ⟨h3, h4⟩ := mem_low.mp hm
      have : lmin g ≤ at0 g a := by
        refine lmin_le ?_
        unfold at0
        rw [List.getD_eq_getElem?_getD, List.getElem?_eq_getElem (by omega)]
        exact List.getElem_mem _
      omega
section
variable {toll : Int} {n : Nat} {s : St} {r : List Int}
/-- the sum is under the toll -/
theorem own_stay (h : ¬ at0 (grown s r) s.kind ≥ toll) : nextKind toll n s r = s.kind ∧ ending toll n s r = false := by
  refine ⟨?_, ?_⟩
  · unfold nextKind
    rw [if_pos (by omega)]
  · unfold ending
    rw [decide_eq_false (by omega)]
    rfl
theorem own_go (hg : (grown s r).length = n) (hne : grown s r ≠ []) (h : at0 (grown s r) s.kind ≥ toll) (h2 : lmin (grown s r) < toll) : nextKind toll n s r = (grown s r).idxOf (lmin (grown s r)) ∧ ending toll n s r = false := by
  have e := low_empty (toll := toll) hg hne
  rw [decide_eq_false (fun q => q h2)] at e
  obtain ⟨_, h3, _⟩ := idx_at hne
  refine ⟨?_, ?_⟩
  · unfold nextKind
    rw [if_neg (by omega), e, if_neg Bool.false_ne_true]
    exact first_fil hg hne (decide_eq_true (by omega))
  · unfold ending
    rw [e]
    exact Bool.and_false _
theorem own_end (hg : (grown s r).length = n) (hne : grown s r ≠ []) (hr : r.length = n) (hrn : r ≠ []) (h : at0 (grown s r) s.kind ≥ toll) (h2 : ¬ lmin (grown s r) < toll) :
    nextKind toll n s r = (if at0 r s.kind = lmin r then s.kind else r.idxOf (lmin r)) ∧ ending toll n s r = true := by
  have e := low_empty (toll := toll) hg hne
  rw [decide_eq_true h2] at e
  refine ⟨?_, ?_⟩
  · unfold nextKind
    rw [if_neg (by omega), e, if_pos rfl, first_range hr hrn]
  · unfold ending
    rw [e, decide_eq_true (by omega)]
    rfl
end
end UM
/-! PUnder: the program's own defs of choosing under way, each by its promise. -/
namespace PU
open PySem PySem.Spec PyProof.Rows L2 Ts K96
local macro_rules | `(tactic| walk_at "rd1") => `(tactic| first
  | with_reducible refine r_seq ?_ | with_reducible refine r_ret ?_ | with_reducible refine r_asg ?_ | with_reducible refine r_drop ?_ | with_reducible refine r_ifS ?_ | with_reducible refine r_next ?_
  | (with_reducible refine r_varE ?_; refine ⟨_, rfl, ?_⟩) | with_reducible refine r_c ?_ | with_reducible refine r_op ?_ | with_reducible refine r_I0 ?_ | (with_reducible refine r_eq ?h1 ?_; (case h1 => exact rfl)) | (with_reducible refine r_ne ?h1 ?_; (case h1 => exact rfl))
  | with_reducible refine r_nil ?_ | with_reducible refine r_cons ?_ | with_reducible refine r_cb ?_ | with_reducible refine r_call ?_ | with_reducible refine r_test ?_ | with_reducible refine r_tB ?_ | with_reducible refine r_bll ?_ | with_reducible refine r_int ?_
  | with_reducible refine r_not ?_ | with_reducible refine r_and ?_ | with_reducible refine r_or ?_ | with_reducible refine r_if ?_ | with_reducible refine r_isa ?_ | with_reducible refine r_tup ?_ | with_reducible refine r_lst ?_
  | with_reducible refine r_for ?_ | with_reducible refine r_iTup ?_ | with_reducible refine r_iList ?_ | with_reducible refine r_rng1 ?_ | with_reducible refine r_rng2 ?_ | with_reducible refine r_zipA ?_ | with_reducible refine r_enT ?_ | with_reducible refine r_zipM ?_ | with_reducible refine r_bmG ?_ | with_reducible refine r_enL ?_ | with_reducible refine r_revA ?_
  | (with_reducible refine r_augE ?_; refine ⟨_, rfl, ?_⟩) | with_reducible refine r_ipI ?_ | with_reducible refine r_rAdd ?_ | with_reducible refine r_bm ?_ | with_reducible refine r_bm0 ?_ | with_reducible refine r_gn ?_ | with_reducible refine r_asgG ?_
  | with_reducible refine r_sl ?_ | with_reducible refine r_nop ?_ | with_reducible refine r_part ?_ | with_reducible refine r_chain ?_ | with_reducible refine r_un ?_ | with_reducible refine r_rU ?_ | with_reducible refine r_fldE ?_ | with_reducible refine r_sfld ?_ | with_reducible refine r_sfldaug ?_ | with_reducible refine r_lstRg ?_ | with_reducible refine r_rg1 ?_ | with_reducible refine r_dget ?_ | with_reducible refine r_dput ?_ | with_reducible refine r_disp ?_ | with_reducible refine r_gsub ?_ | with_reducible refine r_pairC ?_ | with_reducible refine r_pairN ?_ | with_reducible refine r_meth ?_ | with_reducible refine r_make ?_ | with_reducible refine iteT ?_ | with_reducible refine iteF ?_)
local macro_rules | `(tactic| walk_at "rd") => `(tactic| repeat walk_at "rd1")


/-! ### what is asked of data -/
def isNum : PyData → Bool
  | .int _ => true
  | _ => false
def btw (lo hi : Int) : PyData → Bool
  | .int i => decide (lo ≤ i) && decide (i ≤ hi)
  | _ => false
theorem isNum_eq (d : PyData) : (isaD "int" d && !isaD "bool" d) = isNum d := by cases d <;> rfl
def rowOk (m : Int) : PyData → Bool
  | .tuple ds => decide ((ds.length : Int) = m) && ds.all (btw 1 1000000)
  | _ => false

/-- a tuple of no more than so many -/
def Short (d : PyData) : Prop := ∀ ds, d = .tuple ds → ds.length ≤ 1000000
def sp_is_number (K : PySem.W.Frag) : Sp := fun vs H Q _ => ∃ x d, vs = [x] ∧ Dp K H x d ∧ Q (.bl (isNum d)) H
def sp_is_between (K : PySem.W.Frag) : Sp := fun vs H Q _ => ∃ x d lo hi, vs = [x, .int lo, .int hi] ∧ Dp K H x d ∧ Q (.bl (btw lo hi d)) H
def sp_is_costs_row (K : PySem.W.Frag) : Sp := fun vs H Q _ => ∃ x d m, vs = [x, .int m] ∧ Dp K H x d ∧ Short d ∧ ∀ H', Ex H H' → Q (.bl (rowOk m d)) H'
def sp_is_toll (K : PySem.W.Frag) : Sp := fun vs H Q _ => ∃ x d, vs = [x] ∧ Dp K H x d ∧ Q (.bl (btw 1 1000 d)) H
section
variable {P : Program} {w : World} {K : PySem.W.Frag} {mg : Str → Option Value} {base : Heap}
theorem sc_is_number : FnScope ["thing"] ["thing"] (defScope sis_number) := ⟨rfl, rfl, rfl, by decide +kernel, rfl, by decide +kernel, by decide +kernel⟩
theorem ok_is_number (T : Tx fa fn K mg) : GFn P w K mg base 1 (He.fAd K dis_number.at_) ["thing"] (sp_is_number K) := by
  obtain ⟨fd, F⟩ := T.says.def_ 0 (d := dis_number) rfl
  refine ok0 F sc_is_number (fun vs H Q E h => ?_) (fun _ _ _ _ _ _ us hl => match us, hl with | [_], _ => rfl) (fun cdv A outer s H vs Q E hr h => ?_)
  · obtain ⟨x, d, rfl, _⟩ := h
    rfl
  · obtain ⟨x, d, rfl, hd, k⟩ := h
    refine ⟨_, (pss_one (ps_ret (pe_and (isaK2 K (pe_isa isa_int (T.b 62) (T.b 61) (by decide +kernel) (pv 0))) (pe_one (pe_not (isaK2 K (pe_isa isa_bool (T.b 62) (T.b 59) (by decide +kernel) (pv 0)))))))), ?_⟩
    refine v_and (v_isa (val_var rfl) hd) (fun _ => v_not (v_isa (val_var rfl) hd)) _ ?_
    rw [isNum_eq]
    exact k
theorem sc_is_between : FnScope ["thing", "low", "high"] ["thing", "low", "high"] (defScope sis_between) := ⟨rfl, rfl, rfl, by decide +kernel, rfl, by decide +kernel, by decide +kernel⟩
theorem ok_is_between (T : Tx fa fn K mg) : GFn P w K mg base 2 (He.fAd K dis_between.at_) ["thing", "low", "high"] (sp_is_between K) := by
  obtain ⟨fd, F⟩ := T.says.def_ 1 (d := dis_between) rfl
  refine ok0 F sc_is_between (fun vs H Q E h => ?_) (fun _ _ _ _ _ _ us hl => match us, hl with | [_, _, _], _ => rfl) (fun cdv A outer s H vs Q E hr h => ?_)
  · obtain ⟨x, d, lo, hi, rfl, _⟩ := h
    rfl
  · obtain ⟨x, d, lo, hi, rfl, hd, k⟩ := h
    refine ⟨_, (pss_one (ps_ret (pe_and (gc (ok_is_number T) (hr.mono (by decide)) (T.g 0) pn (pa_cons (pv 0) pa_nil)) (pe_one (pe_chain op_le op_le (pv 1) (pv 0) (pv 2)))))), ?_⟩
    refine ⟨_, rfl, _, d, rfl, hd, _, rfl, ifB (fun e => ?_) (fun e => ?_)⟩
    · cases hd with
      | int i =>
        refine ⟨_, rfl, _, rfl, _, _, rfl, rfl, _, rfl, ifB (fun e1 => ?_) (fun e1 => ?_)⟩
        · refine ⟨_, rfl, _, _, rfl, rfl, ?_⟩
          have z : btw lo hi (.int i) = decide (i ≤ hi) := by
            show (decide (lo ≤ i) && decide (i ≤ hi)) = _
            rw [e1, Bool.true_and]
          rw [z] at k
          exact k
        · have z : btw lo hi (.int i) = false := by
            show (decide (lo ≤ i) && decide (i ≤ hi)) = _
            rw [e1, Bool.false_and]
          rw [z] at k
          exact k
      | _ => cases e
    · have z : btw lo hi d = false := by
        cases d <;> first | rfl | cases e
      rw [z] at k
      exact k
theorem sc_is_toll : FnScope ["thing"] ["thing"] (defScope sis_toll) := ⟨rfl, rfl, rfl, by decide +kernel, rfl, by decide +kernel, by decide +kernel⟩
theorem ok_is_toll (T : Tx fa fn K mg) : GFn P w K mg base 3 (He.fAd K dis_toll.at_) ["thing"] (sp_is_toll K) := by
  obtain ⟨fd, F⟩ := T.says.def_ 4 (d := dis_toll) rfl
  refine ok0 F sc_is_toll (fun vs H Q E h => ?_) (fun _ _ _ _ _ _ us hl => match us, hl with | [_], _ => rfl) (fun cdv A outer s H vs Q E hr h => ?_)
  · obtain ⟨x, d, rfl, _⟩ := h
    rfl
  · obtain ⟨x, d, rfl, hd, k⟩ := h
    refine ⟨_, (pss_one (ps_ret (gc (ok_is_between T) (hr.mono (by decide)) (T.g 1) pn (pa_cons (pv 0) (pa_cons pe_int (pa_cons (pgi (T.i 39)) pa_nil)))))), ?_⟩
    exact ⟨_, rfl, _, _, _, _, rfl, hd, k⟩
theorem sc_is_costs_row : FnScope ["thing", "many", "one"] ["thing", "many"] (defScope sis_costs_row) := ⟨rfl, rfl, rfl, by decide +kernel, rfl, by decide +kernel, by decide +kernel⟩
theorem ok_is_costs_row (T : Tx fa fn K mg) : GFn P w K mg base 3 (He.fAd K dis_costs_row.at_) ["thing", "many"] (sp_is_costs_row K) := by
  obtain ⟨fd, F⟩ := T.says.def_ 2 (d := dis_costs_row) rfl
  refine ok0 F sc_is_costs_row (fun vs H Q E h => ?_) (fun _ _ _ _ _ _ us hl => match us, hl with | [_, _], _ => rfl) (fun cdv A outer s H vs Q E hr h => ?_)
  · obtain ⟨x, d, m, rfl, _⟩ := h
    rfl
  · obtain ⟨x, d, m, rfl, hd, hz, k⟩ := h
    refine ⟨_, (pss_cons (ps_if (PW.pt (pw_or (pt_not (pt_val (isaK2 K (pe_isa isa_tuple (T.b 62) (T.b 73) (by decide +kernel) (pv 0))))) (pw_or1 (pt_cmpR op_ne (pe_callB (cLen K) (by rfl) (T.b 63) (by decide +kernel) (pa_cons (pv 0) pa_nil)) (pv 1) (nomark _))))) (pss_one (ps_ret pe_bl)) pss_nil)
      (pss_one (ps_ret (pe_callB (cAll K rfl) (by rfl) (T.b 58) (by decide +kernel) (pa_cons (pe_lc (own := [("one", 2)]) (g := gName 2) (tt := tYes) rfl sc_is_costs_row.nd (piT K (pv 0)) (blkOk_by (N := ["thing", "many", "one"]) (sc := defScope sis_costs_row) (by decide +kernel)) (fun _ _ _ _ _ => pg_name (i := 2) sc_is_costs_row.nd rfl (Or.inl rfl)) (fun _ _ _ _ _ => pts_nil) (fun _ _ _ _ _ => (gc (ok_is_between T) (hr.mono (by decide)) (T.g 1) pn (pa_cons (pv 2) (pa_cons pe_int (pa_cons (pgi (T.i 38)) pa_nil)))))) pa_nil))))), ?_⟩
    refine ⟨_, rfl, _, hd, _, rfl, ifB (fun e => ?_) (fun e => ?_)⟩
    · have z : rowOk m d = false := by cases d <;> first | rfl | cases e
      rw [← z]
      exact iteT (k H (Evl.Ex.refl H))
    · cases hd with
      | tup hs ha =>
        rename_i a xs ds
        have hl := dpa_len ha
        refine ⟨_, rfl, a, xs, rfl, .inr hs, _, rfl, rfl, _, rfl, ifB (fun e => ?_) (fun e => ?_)⟩
        · have z : rowOk m (.tuple ds) = false := by
            show (decide ((ds.length : Int) = m) && _) = false
            have e2 : ¬ ((ds.length : Int) = m) := by
              intro q
              rw [hl, q] at e
              simp at e
            rw [decide_eq_false e2, Bool.false_and]
          rw [← z]
          exact k H (Evl.Ex.refl H)
        · have e2 : (ds.length : Int) = m := by
            rw [← hl]
            simpa using e
          walk_at "rd"
          refine lcT_map (zs := ds) (fun d => V.bl (btw 1 1000000 d)) (val_var rfl) hs hl (by rw [hl]; exact hz ds rfl) (fun _ => by rfl) (fun i x d hx hd H2 e2 R q => ?_) fun D H' hD e1 hl1 => ?_
          · obtain ⟨d', hd', hdp⟩ := dpa_get ha hx
            rw [hd] at hd'
            cases hd'
            exact ⟨_, rfl, _, _, _, _, rfl, dp_sb (ex_sb e2) hdp, q H2 (Evl.Ex.refl _)⟩
          · refine ⟨D, ds.map (btw 1 1000000), rfl, by rw [List.map_map]; exact SqL.of hl1, ?_⟩
            have z : rowOk m (.tuple ds) = (ds.map (btw 1 1000000)).all id := by
              show (decide ((ds.length : Int) = m) && _) = _
              rw [decide_eq_true e2, Bool.true_and, List.all_map]
              rfl
            rw [← z]
            exact k H' e1
      | _ => cases e
end
end PU
/-! PCheap: costs, choices, the cheapest: the program's defs by their promises, for costs that are some. -/
namespace PU
open PySem PySem.Spec PyProof.Rows L2 Ts K96
local macro_rules | `(tactic| walk_at "rd1") => `(tactic| first
  | with_reducible refine r_seq ?_ | with_reducible refine r_ret ?_ | with_reducible refine r_asg ?_ | with_reducible refine r_drop ?_ | with_reducible refine r_ifS ?_ | with_reducible refine r_next ?_
  | (with_reducible refine r_varE ?_; refine ⟨_, rfl, ?_⟩) | with_reducible refine r_c ?_ | with_reducible refine r_op ?_ | with_reducible refine r_I0 ?_ | (with_reducible refine r_eq ?h1 ?_; (case h1 => exact rfl)) | (with_reducible refine r_ne ?h1 ?_; (case h1 => exact rfl))
  | with_reducible refine r_nil ?_ | with_reducible refine r_cons ?_ | with_reducible refine r_cb ?_ | with_reducible refine r_call ?_ | with_reducible refine r_test ?_ | with_reducible refine r_tB ?_ | with_reducible refine r_bll ?_ | with_reducible refine r_int ?_
  | with_reducible refine r_not ?_ | with_reducible refine r_and ?_ | with_reducible refine r_or ?_ | with_reducible refine r_if ?_ | with_reducible refine r_isa ?_ | with_reducible refine r_tup ?_ | with_reducible refine r_lst ?_
  | with_reducible refine r_for ?_ | with_reducible refine r_iTup ?_ | with_reducible refine r_iList ?_ | with_reducible refine r_rng1 ?_ | with_reducible refine r_rng2 ?_ | with_reducible refine r_zipA ?_ | with_reducible refine r_enT ?_ | with_reducible refine r_zipM ?_ | with_reducible refine r_bmG ?_ | with_reducible refine r_enL ?_ | with_reducible refine r_revA ?_
  | (with_reducible refine r_augE ?_; refine ⟨_, rfl, ?_⟩) | with_reducible refine r_ipI ?_ | with_reducible refine r_rAdd ?_ | with_reducible refine r_bm ?_ | with_reducible refine r_bm0 ?_ | with_reducible refine r_gn ?_ | with_reducible refine r_asgG ?_
  | with_reducible refine r_sl ?_ | with_reducible refine r_nop ?_ | with_reducible refine r_part ?_ | with_reducible refine r_chain ?_ | with_reducible refine r_un ?_ | with_reducible refine r_rU ?_ | with_reducible refine r_fldE ?_ | with_reducible refine r_sfld ?_ | with_reducible refine r_sfldaug ?_ | with_reducible refine r_lstRg ?_ | with_reducible refine r_rg1 ?_ | with_reducible refine r_dget ?_ | with_reducible refine r_dput ?_ | with_reducible refine r_disp ?_ | with_reducible refine r_gsub ?_ | with_reducible refine r_pairC ?_ | with_reducible refine r_pairN ?_ | with_reducible refine r_meth ?_ | with_reducible refine r_make ?_ | with_reducible refine iteT ?_ | with_reducible refine iteF ?_)
local macro_rules | `(tactic| walk_at "rd") => `(tactic| repeat walk_at "rd1")


/-! ### data -/
abbrev dCosts (rows : List (List Int)) : PyData := .tuple (rows.map dInts)
theorem lay_ints : ∀ ns : List Int, PyData.canLayAll0 (ns.map PyData.int) = true
  | [] => rfl
  | n :: r => by
    show (PyData.canLay0 (.int n) && PyData.canLayAll0 (r.map PyData.int)) = true
    rw [lay_ints r]
    rfl
theorem dep_ints : ∀ ns : List Int, PyData.depthAll (ns.map PyData.int) = 0
  | [] => rfl
  | n :: r => by
    show max (PyData.depth (.int n)) (PyData.depthAll (r.map PyData.int)) = 0
    rw [dep_ints r]
    rfl
theorem lay_costs : ∀ rows : List (List Int), PyData.canLayAll0 (rows.map dInts) = true
  | [] => rfl
  | r :: rs => by
    show (PyData.canLayAll0 (r.map PyData.int) && PyData.canLayAll0 (rs.map dInts)) = true
    rw [lay_ints r, lay_costs rs]
    rfl
theorem dep_costs : ∀ rows : List (List Int), PyData.depthAll (rows.map dInts) ≤ 1
  | [] => Nat.zero_le _
  | r :: rs => by
    show max (PyData.depthAll (r.map PyData.int) + 1) (PyData.depthAll (rs.map dInts)) ≤ 1
    rw [dep_ints r]
    have := dep_costs rs
    omega
theorem shaped_ints (ns : List Int) : SeqAt.shaped (dInts ns) = true := by
  show (PyData.canLayAll0 (ns.map PyData.int) && decide (PyData.depthAll (ns.map PyData.int) + 1 ≤ 64)) = true
  rw [lay_ints, dep_ints]
  rfl
theorem shaped_costs (rows : List (List Int)) : SeqAt.shaped (dCosts rows) = true := by
  show (PyData.canLayAll0 (rows.map dInts) && decide (PyData.depthAll (rows.map dInts) + 1 ≤ 64)) = true
  have := dep_costs rows
  rw [lay_costs, decide_eq_true (by omega)]
  rfl
theorem shaped_nil : SeqAt.shaped (.tuple []) = true := rfl
theorem eqv_nil (ds : List PyData) : PyData.eqv (.tuple ds) (.tuple []) = ds.isEmpty := by
  cases ds <;> simp [PyData.eqv, PyData.eqvAll]
theorem dp_empty {K : PySem.W.Frag} {H : Hp} {p : Addr} : Dp K (upd H p (.tup [])) (.ref p) (.tuple []) := .tup (SqT.of upd_same) .nil
/-- how costs stand -/
structure CostAt (K : PySem.W.Frag) (H : Hp) (v : V) (rows : List (List Int)) (a : Addr) (vs : List V) : Prop where
  ev : v = .ref a
  sq : SqT K H a vs
  len : vs.length = rows.length
  get : ∀ (i : Nat) (r : List Int), rows[i]? = some r → ∃ b, vs[i]? = some (V.ref b) ∧ SqT K H b (r.map V.int)
  dp : Dp K H v (dCosts rows)
theorem cost_at {K : PySem.W.Frag} {H : Hp} {v : V} {rows : List (List Int)} (h : Dp K H v (dCosts rows)) : ∃ a vs, CostAt K H v rows a vs := by
  obtain ⟨a, vs, ev, hs, ha⟩ := dp_tup h
  refine ⟨a, vs, ev, hs, by rw [dpa_len ha, List.length_map], fun i r hr => ?_, h⟩
  have e : (rows.map dInts)[i]? = some (dInts r) := by rw [List.getElem?_map, hr]; rfl
  obtain ⟨u, hu, hd⟩ := dpa_getD ha e
  obtain ⟨b, eb, hb⟩ := dp_ints hd
  exact ⟨b, by rw [hu, eb], hb⟩
/-- costs and a toll that are some -/
structure Okc (toll : Int) (n : Nat) (rows : List (List Int)) : Prop where
  g : UM.Good toll n rows
  t2 : toll ≤ 1000
  n2 : n ≤ 5
  m : rows.length ≤ 120
  top : ∀ r ∈ rows, ∀ x ∈ r, 1 ≤ x ∧ x ≤ 1000000
  none : rows = [] → n = 1
theorem Okc.row {toll : Int} {n : Nat} {rows : List (List Int)} (o : Okc toll n rows) {r : List Int} (h : r ∈ rows) : r.length = n := by
  obtain ⟨i, hi, e⟩ := List.getElem_of_mem h
  have := o.g.len i hi
  unfold UM.row at this
  rw [List.getD_eq_getElem?_getD, List.getElem?_eq_getElem hi] at this
  rw [← e]
  exact this
theorem row_at {rows : List (List Int)} {i : Nat} {r : List Int} (h : rows[i]? = some r) : UM.row rows i = r := by
  unfold UM.row
  rw [List.getD_eq_getElem?_getD, h]
  rfl
theorem row_get {rows : List (List Int)} {i : Nat} (h : i < rows.length) : rows[i]? = some (UM.row rows i) := by
  unfold UM.row
  rw [List.getD_eq_getElem?_getD, List.getElem?_eq_getElem h]
  rfl
/-- whether data are costs -/
def costsOk : PyData → Bool
  | .tuple ds => decide (ds.length ≤ 120) && (ds.isEmpty || match ds.head? with
    | some (.tuple r) => decide (1 ≤ r.length) && decide (r.length ≤ 5) && ds.all (rowOk (r.length : Int))
    | _ => false)
  | _ => false
theorem btw_top {x lo hi : Int} : btw lo hi (.int x) = true ↔ lo ≤ x ∧ x ≤ hi := by
  show (decide (lo ≤ x) && decide (x ≤ hi)) = true ↔ _
  rw [Bool.and_eq_true, decide_eq_true_eq, decide_eq_true_eq]
theorem rowOk_ints {r : List Int} {m : Int} : rowOk m (dInts r) = true ↔ (r.length : Int) = m ∧ ∀ x ∈ r, 1 ≤ x ∧ x ≤ 1000000 := by
  show (decide (((r.map PyData.int).length : Int) = m) && (r.map PyData.int).all (btw 1 1000000)) = true ↔ _
  rw [Bool.and_eq_true, decide_eq_true_eq, List.length_map, List.all_eq_true]
  constructor
  · rintro ⟨h1, h2⟩
    exact ⟨h1, fun x hx => btw_top.mp (h2 _ (List.mem_map_of_mem hx))⟩
  · rintro ⟨h1, h2⟩
    refine ⟨h1, fun d hd => ?_⟩
    obtain ⟨x, hx, rfl⟩ := List.mem_map.mp hd
    exact btw_top.mpr (h2 x hx)
theorem Okc.costs {toll : Int} {n : Nat} {rows : List (List Int)} (o : Okc toll n rows) : costsOk (dCosts rows) = true := by
  show (decide ((rows.map dInts).length ≤ 120) && ((rows.map dInts).isEmpty || match (rows.map dInts).head? with
    | some (.tuple r) => decide (1 ≤ r.length) && decide (r.length ≤ 5) && (rows.map dInts).all (rowOk (r.length : Int))
    | _ => false)) = true
  rw [List.length_map, decide_eq_true o.m, Bool.true_and]
  cases e : rows with
  | nil => rfl
  | cons r rs =>
    have hr : r.length = n := o.row (by rw [e]; exact List.mem_cons_self)
    have n1 := o.g.n1
    have n2 := o.n2
    show (false || (decide (1 ≤ (r.map PyData.int).length) && decide ((r.map PyData.int).length ≤ 5) && ((r :: rs).map dInts).all (rowOk ((r.map PyData.int).length : Int)))) = true
    rw [List.length_map, hr, decide_eq_true n1, decide_eq_true n2, Bool.false_or, Bool.true_and, Bool.true_and, List.all_eq_true]
    intro d hd
    obtain ⟨q, hq, rfl⟩ := List.mem_map.mp hd
    have hq2 : q ∈ rows := by rw [e]; exact hq
    exact rowOk_ints.mpr ⟨by rw [o.row hq2], fun x hx => o.top q hq2 x hx⟩
theorem Okc.toll {toll : Int} {n : Nat} {rows : List (List Int)} (o : Okc toll n rows) : btw 1 1000 (.int toll) = true := btw_top.mpr ⟨o.g.t1, o.t2⟩
theorem short_ints (r : List Int) (h : r.length ≤ 1000000) : Short (dInts r) := fun ds e => by
  cases e
  rw [List.length_map]
  exact h

/-! ### promises -/
def sp_is_costs (K : PySem.W.Frag) : Sp := fun vs H Q _ => ∃ x d, vs = [x] ∧ Dp K H x d ∧ SeqAt.shaped d = true ∧ Short d ∧ (∀ ds, d = .tuple ds → ∀ e ∈ ds, Short e) ∧ ∀ H', Ex H H' → Q (.bl (costsOk d)) H'
def sp_need_costs (K : PySem.W.Frag) : Sp := fun vs H Q _ => ∃ x toll n rows, vs = [x, .int toll] ∧ Dp K H x (dCosts rows) ∧ Okc toll n rows ∧ ∀ H', Ex H H' → Q .non H'
def sp_how_many (K : PySem.W.Frag) : Sp := fun vs H Q _ => ∃ x toll n rows, vs = [x] ∧ Dp K H x (dCosts rows) ∧ Okc toll n rows ∧ ∀ H', Ex H H' → Q (.int (n : Int)) H'
def sp_turned_for : Sp := fun vs H Q _ => ∃ (a b : Nat) (t : Int), vs = [.int a, .int b, .int t] ∧ Q (.int (UM.turn t a b)) H
section
variable {P : Program} {w : World} {K : PySem.W.Frag} {mg : Str → Option Value} {base : Heap}
theorem sc_is_costs : FnScope ["thing", "row"] ["thing"] (defScope sis_costs) := ⟨rfl, rfl, rfl, by decide +kernel, rfl, by decide +kernel, by decide +kernel⟩
theorem ok_is_costs (T : Tx fa fn K mg) : GFn P w K mg base 4 (He.fAd K dis_costs.at_) ["thing"] (sp_is_costs K) := by
  obtain ⟨fd, F⟩ := T.says.def_ 3 (d := dis_costs) rfl
  refine ok0 F sc_is_costs (fun vs H Q E h => ?_) (fun _ _ _ _ _ _ us hl => match us, hl with | [_], _ => rfl) (fun cdv A outer s H vs Q E hr h => ?_)
  · obtain ⟨x, d, rfl, _⟩ := h
    rfl
  · obtain ⟨x, d, rfl, hd, hsh, hz, hz2, k⟩ := h
    have hu := hu_of hr.rm
    refine ⟨_, (pss_cons (ps_if (PW.pt (pw_or (pt_not (pt_val (isaK2 K (pe_isa isa_tuple (T.b 62) (T.b 73) (by decide +kernel) (pv 0))))) (pw_or1 (pt_cmpR op_gt (pe_callB (cLen K) (by rfl) (T.b 63) (by decide +kernel) (pa_cons (pv 0) pa_nil)) (pgi (T.i 36)) (nomark _))))) (pss_one (ps_ret pe_bl)) pss_nil)
      (pss_cons (ps_if (pt_cmpR (eqK K hr.rm.units) (pv 0) (pe_tup pa_nil) (nomark _)) (pss_one (ps_ret pe_bl)) pss_nil)
      (pss_cons (ps_if (PW.pt (pw_or (pt_not (pt_val (isaK2 K (pe_isa isa_tuple (T.b 62) (T.b 73) (by decide +kernel) (pe_ix (ixT K) (pv 0) pe_int (fun _ _ => rfl)))))) (pw_or1 (pt_not (pt_chain op_le op_le pe_int (pe_callB (cLen K) (by rfl) (T.b 63) (by decide +kernel) (pa_cons (pe_ix (ixT K) (pv 0) pe_int (fun _ _ => rfl)) pa_nil)) (pgi (T.i 37))))))) (pss_one (ps_ret pe_bl)) pss_nil)
      (pss_one (ps_ret (pe_callB (cAll K rfl) (by rfl) (T.b 58) (by decide +kernel) (pa_cons (pe_lc (own := [("row", 1)]) (g := gName 1) (tt := tYes) rfl sc_is_costs.nd (piT K (pv 0)) (blkOk_by (N := ["thing", "row"]) (sc := defScope sis_costs) (by decide +kernel)) (fun _ _ _ _ _ => pg_name (i := 1) sc_is_costs.nd rfl (Or.inl rfl)) (fun _ _ _ _ _ => pts_nil) (fun _ _ _ _ _ => (gc (ok_is_costs_row T) (hr.mono (by decide)) (T.g 2) pn (pa_cons (pv 1) (pa_cons (pe_callB (cLen K) (by rfl) (T.b 63) (by decide +kernel) (pa_cons (pe_ix (ixT K) (pv 0) pe_int (fun _ _ => rfl)) pa_nil)) pa_nil))))) pa_nil))))))), ?_⟩
    refine ⟨_, rfl, _, hd, _, rfl, ifB (fun e => ?_) (fun e => ?_)⟩
    · have z : costsOk d = false := by cases d <;> first | rfl | cases e
      rw [← z]
      exact iteT (k H (Evl.Ex.refl H))
    · cases hd with
      | tup hs ha =>
        rename_i a xs ds
        have hl := dpa_len ha
        refine ⟨_, rfl, a, xs, rfl, .inr hs, _, _, rfl, rfl, _, rfl, ifB (fun e => ?_) (fun e => ?_)⟩
        · have z : costsOk (.tuple ds) = false := by
            show (decide (ds.length ≤ 120) && _) = false
            rw [decide_eq_false (by
              have := of_decide_eq_true e
              omega), Bool.false_and]
          rw [← z]
          exact k H (Evl.Ex.refl H)
        · have hm : ds.length ≤ 120 := by
            have := of_decide_eq_false e
            omega
          have z0 : costsOk (.tuple ds) = (ds.isEmpty || match ds.head? with
              | some (.tuple r) => decide (1 ≤ r.length) && decide (r.length ≤ 5) && ds.all (rowOk (r.length : Int))
              | _ => false) := by
            show (decide (ds.length ≤ 120) && _) = _
            rw [decide_eq_true hm, Bool.true_and]
          rw [z0] at k
          -- thing == ()
          refine ⟨_, rfl, by show 0 ≤ sizeLine; exact Nat.zero_le _, fun p hp => ?_⟩
          have e1 := ex_new (o := .tup []) hp
          have hs1 := (ex_sb e1).t _ _ hs
          refine ⟨_, _, .tup hs1 (dpa_sb (ex_sb e1) ha), dp_empty, hsh, shaped_nil, _, rfl, ?_⟩
          rw [eqv_nil]
          cases ds with
          | nil => exact iteT (k _ e1)
          | cons d0 ds =>
            refine iteF ?_
            cases ha with
            | cons h0 hr0 =>
              rename_i x0 xs0
              have at0 : atI (x0 :: xs0) (0 : Int) = some x0 := atI_nat (j := 0) rfl
              have h01 := dp_sb (ex_sb e1) h0
              refine ⟨_, rfl, _, _, _, _, rfl, rfl, hs1, at0, _, h01, _, rfl, ifB (fun e => ?_) (fun e => ?_)⟩
              · have z : (match ((d0 :: ds).head? : Option PyData) with
                    | some (.tuple r) => decide (1 ≤ r.length) && decide (r.length ≤ 5) && (d0 :: ds).all (rowOk (r.length : Int))
                    | _ => false) = false := by cases d0 <;> first | rfl | cases e
                have k1 := k _ e1
                rw [z] at k1
                exact iteT k1
              · cases d0 with
                | tuple dr =>
                  obtain ⟨ar, xr, ex0, hsr, har⟩ := dp_tup h01
                  subst ex0
                  have hlr := dpa_len har
                  have hac : DpAll K (upd H p (.tup [])) (V.ref ar :: xs0) (PyData.tuple dr :: ds) := .cons h01 (dpa_sb (ex_sb e1) hr0)
                  refine ⟨_, rfl, _, _, _, _, rfl, rfl, hs1, at0, ar, xr, rfl, .inr hsr, ?_⟩
                  have tail : (decide (1 ≤ dr.length) && decide (dr.length ≤ 5)) = false → Q (.bl false) (upd H p (.tup [])) := fun q => by
                    have k1 := k _ e1
                    have z : (match ((PyData.tuple dr :: ds).head? : Option PyData) with
                      | some (.tuple r) => decide (1 ≤ r.length) && decide (r.length ≤ 5) && (PyData.tuple dr :: ds).all (rowOk (r.length : Int))
                      | _ => false) = false := by
                      show (decide (1 ≤ dr.length) && decide (dr.length ≤ 5) && _) = false
                      rw [q, Bool.false_and]
                    rw [z] at k1
                    exact k1
                  refine ⟨_, _, rfl, rfl, _, rfl, ifB (fun f1 => ?_) (fun f1 => ?_)⟩
                  · have g1 : 1 ≤ dr.length := by
                      have := of_decide_eq_true f1
                      omega
                    refine ⟨_, _, rfl, rfl, _, rfl, ?_⟩
                    cases f2 : decide ((xr.length : Int) ≤ 5) with
                    | false =>
                      refine iteT (tail ?_)
                      have := of_decide_eq_false f2
                      rw [decide_eq_false (show ¬ dr.length ≤ 5 by omega), Bool.and_false]
                    | true =>
                      refine iteF ?_
                      have g2 : dr.length ≤ 5 := by
                        have := of_decide_eq_true f2
                        omega
                      have k1 : ∀ H', Ex H H' → Q (.bl ((PyData.tuple dr :: ds).all (rowOk (dr.length : Int)))) H' := fun H' q => by
                        have k1 := k _ q
                        have z : (match ((PyData.tuple dr :: ds).head? : Option PyData) with
                          | some (.tuple r) => decide (1 ≤ r.length) && decide (r.length ≤ 5) && (PyData.tuple dr :: ds).all (rowOk (r.length : Int))
                          | _ => false) = (PyData.tuple dr :: ds).all (rowOk (dr.length : Int)) := by
                          show (decide (1 ≤ dr.length) && decide (dr.length ≤ 5) && _) = _
                          rw [decide_eq_true g1, decide_eq_true g2, Bool.true_and, Bool.true_and]
                        rw [z] at k1
                        exact k1
                      walk_at "rd"
                      refine lcT_map (zs := PyData.tuple dr :: ds) (fun d => V.bl (rowOk (dr.length : Int) d)) (val_var rfl) hs1 (dpa_len hac) (by rw [dpa_len hac]; exact hz _ rfl) (fun _ => by rfl) (fun i x d hx hd H2 e2 R q => ?_) fun D H' hD e2 hl1 => ?_
                      · obtain ⟨d', hd', hdp⟩ := dpa_get hac hx
                        rw [hd] at hd'
                        cases hd'
                        walk_at "rd"
                        refine r_ixT ((ex_sb e2).t _ _ hs1) at0 ?_
                        walk_at "rd"
                        refine ⟨_, _, rfl, .inr ((ex_sb e2).t _ _ hsr), ?_⟩
                        walk_at "rd"
                        rw [hlr]
                        exact ⟨_, _, _, rfl, dp_sb (ex_sb e2) hdp, hz2 _ rfl d (List.mem_of_getElem? hd), q⟩
                      · refine ⟨D, (PyData.tuple dr :: ds).map (rowOk (dr.length : Int)), rfl, by rw [List.map_map]; exact SqL.of hl1, ?_⟩
                        have z := k1 H' (Evl.Ex.trans e1 e2)
                        rw [List.all_map]
                        exact z
                  · refine ⟨_, rfl, iteT (tail ?_)⟩
                    have := of_decide_eq_false f1
                    rw [decide_eq_false (show ¬ 1 ≤ dr.length by omega), Bool.false_and]
                | _ => cases e
      | _ => cases e
end
end PU
/-! PCost: need_costs, how_many, turned_for, is_choice, cost. -/
namespace PU
open PySem PySem.Spec PyProof.Rows L2 Ts K96
local macro_rules | `(tactic| walk_at "rd1") => `(tactic| first
  | with_reducible refine r_seq ?_ | with_reducible refine r_ret ?_ | with_reducible refine r_asg ?_ | with_reducible refine r_drop ?_ | with_reducible refine r_ifS ?_ | with_reducible refine r_next ?_
  | (with_reducible refine r_varE ?_; refine ⟨_, rfl, ?_⟩) | with_reducible refine r_c ?_ | with_reducible refine r_op ?_ | with_reducible refine r_I0 ?_ | (with_reducible refine r_eq ?h1 ?_; (case h1 => exact rfl)) | (with_reducible refine r_ne ?h1 ?_; (case h1 => exact rfl))
  | with_reducible refine r_nil ?_ | with_reducible refine r_cons ?_ | with_reducible refine r_cb ?_ | with_reducible refine r_call ?_ | with_reducible refine r_test ?_ | with_reducible refine r_tB ?_ | with_reducible refine r_bll ?_ | with_reducible refine r_int ?_
  | with_reducible refine r_not ?_ | with_reducible refine r_and ?_ | with_reducible refine r_or ?_ | with_reducible refine r_if ?_ | with_reducible refine r_isa ?_ | with_reducible refine r_tup ?_ | with_reducible refine r_lst ?_
  | with_reducible refine r_for ?_ | with_reducible refine r_iTup ?_ | with_reducible refine r_iList ?_ | with_reducible refine r_rng1 ?_ | with_reducible refine r_rng2 ?_ | with_reducible refine r_zipA ?_ | with_reducible refine r_enT ?_ | with_reducible refine r_zipM ?_ | with_reducible refine r_bmG ?_ | with_reducible refine r_enL ?_ | with_reducible refine r_revA ?_
  | (with_reducible refine r_augE ?_; refine ⟨_, rfl, ?_⟩) | with_reducible refine r_ipI ?_ | with_reducible refine r_rAdd ?_ | with_reducible refine r_bm ?_ | with_reducible refine r_bm0 ?_ | with_reducible refine r_gn ?_ | with_reducible refine r_asgG ?_
  | with_reducible refine r_sl ?_ | with_reducible refine r_nop ?_ | with_reducible refine r_part ?_ | with_reducible refine r_chain ?_ | with_reducible refine r_un ?_ | with_reducible refine r_rU ?_ | with_reducible refine r_fldE ?_ | with_reducible refine r_sfld ?_ | with_reducible refine r_sfldaug ?_ | with_reducible refine r_lstRg ?_ | with_reducible refine r_rg1 ?_ | with_reducible refine r_dget ?_ | with_reducible refine r_dput ?_ | with_reducible refine r_disp ?_ | with_reducible refine r_gsub ?_ | with_reducible refine r_pairC ?_ | with_reducible refine r_pairN ?_ | with_reducible refine r_meth ?_ | with_reducible refine r_make ?_ | with_reducible refine iteT ?_ | with_reducible refine iteF ?_)
local macro_rules | `(tactic| walk_at "rd") => `(tactic| repeat walk_at "rd1")

theorem is_costs_yes {K : PySem.W.Frag} {H : Hp} {x : V} {toll : Int} {n : Nat} {rows : List (List Int)} {Q : VK} {E : XK} (hd : Dp K H x (dCosts rows)) (o : Okc toll n rows) (k : ∀ H', Ex H H' → Q (.bl true) H') : sp_is_costs K [x] H Q E := by
  refine ⟨x, _, rfl, hd, shaped_costs rows, fun ds e => ?_, fun ds e d hdd => ?_, fun H' e => ?_⟩
  · cases e
    rw [List.length_map]
    have := o.m
    omega
  · cases e
    obtain ⟨r, hr, rfl⟩ := List.mem_map.mp hdd
    exact short_ints r (by rw [o.row hr]; have := o.n2; omega)
  · rw [o.costs]
    exact k H' e
theorem is_toll_yes {K : PySem.W.Frag} {H : Hp} {toll : Int} {n : Nat} {rows : List (List Int)} {Q : VK} {E : XK} (o : Okc toll n rows) (k : Q (.bl true) H) : sp_is_toll K [.int toll] H Q E :=
  ⟨_, _, rfl, .int toll, by rw [o.toll]; exact k⟩
/-- data that are a choice of kinds -/
def chOk (m n : Nat) : PyData → Bool
  | .tuple ds => decide (ds.length = m) && ds.all (btw 0 ((n : Int) - 1))
  | _ => false
def sp_is_choice (K : PySem.W.Frag) : Sp := fun vs H Q _ => ∃ x y toll n rows d, vs = [x, y] ∧ Dp K H x (dCosts rows) ∧ Okc toll n rows ∧ Dp K H y d ∧ Short d ∧ ∀ H', Ex H H' → Q (.bl (chOk rows.length n d)) H'
/-- a choice as data -/
abbrev dNats (c : List Nat) : PyData := dInts (c.map fun k : Nat => (k : Int))
structure Okch (n : Nat) (rows : List (List Int)) (c : List Nat) : Prop where
  len : c.length = rows.length
  lt : ∀ k ∈ c, k < n
def sp_cost (K : PySem.W.Frag) : Sp := fun vs H Q _ => ∃ x y toll n rows c, vs = [x, .int toll, y] ∧ Dp K H x (dCosts rows) ∧ Okc toll n rows ∧ Dp K H y (dNats c) ∧ Okch n rows c ∧
  ∀ H', Ex H H' → Q (.int (UM.C toll rows (fun p => c.getD p 0) rows.length)) H'
theorem chOk_yes {n : Nat} {rows : List (List Int)} {c : List Nat} (h : Okch n rows c) : chOk rows.length n (dNats c) = true := by
  show (decide (((c.map fun k : Nat => (k : Int)).map PyData.int).length = rows.length) && ((c.map fun k : Nat => (k : Int)).map PyData.int).all (btw 0 ((n : Int) - 1))) = true
  rw [List.length_map, List.length_map, decide_eq_true h.len, Bool.true_and, List.all_eq_true]
  intro d hd
  obtain ⟨i, hi, rfl⟩ := List.mem_map.mp hd
  obtain ⟨k, hk, rfl⟩ := List.mem_map.mp hi
  have := h.lt k hk
  exact btw_top.mpr ⟨by omega, by omega⟩
theorem Okch.at {n : Nat} {rows : List (List Int)} {c : List Nat} (h : Okch n rows c) {i : Nat} (hi : i < c.length) : c.getD i 0 < n := by
  rw [List.getD_eq_getElem?_getD, List.getElem?_eq_getElem hi]
  exact h.lt _ (List.getElem_mem hi)
theorem get_nats {c : List Nat} {i : Nat} {v : V} (h : ((c.map fun k : Nat => (k : Int)).map V.int)[i]? = some v) : v = .int ((c.getD i 0 : Nat) : Int) ∧ i < c.length := by
  rw [List.getElem?_map, List.getElem?_map] at h
  by_cases hi : i < c.length
  · rw [List.getElem?_eq_getElem hi] at h
    rw [List.getD_eq_getElem?_getD, List.getElem?_eq_getElem hi]
    exact ⟨(Option.some.inj h).symm, hi⟩
  · rw [List.getElem?_eq_none (by omega)] at h
    cases h
theorem prev_succ (c : Nat → Nat) (i : Nat) : UM.prev c (i + 1) = c i := if_neg (Nat.succ_ne_zero i)
section
variable {P : Program} {w : World} {K : PySem.W.Frag} {mg : Str → Option Value} {base : Heap}
theorem sc_need_costs : FnScope ["costs", "toll"] ["costs", "toll"] (defScope sneed_costs) := ⟨rfl, rfl, rfl, by decide +kernel, rfl, by decide +kernel, by decide +kernel⟩
theorem ok_need_costs (T : Tx fa fn K mg) : GFn P w K mg base 5 (He.fAd K dneed_costs.at_) ["costs", "toll"] (sp_need_costs K) := by
  obtain ⟨fd, F⟩ := T.says.def_ 5 (d := dneed_costs) rfl
  refine ok0 F sc_need_costs (fun vs H Q E h => ?_) (fun _ _ _ _ _ _ us hl => match us, hl with | [_, _], _ => rfl) (fun cdv A outer s H vs Q E hr h => ?_)
  · obtain ⟨x, toll, n, rows, rfl, _⟩ := h
    rfl
  · obtain ⟨x, toll, n, rows, rfl, hd, o, k⟩ := h
    refine ⟨_, (pss_one (ps_if (PW.pt (pw_or (pt_not (pt_val (gc (ok_is_costs T) (hr.mono (by decide)) (T.g 3) pn (pa_cons (pv 0) pa_nil)))) (pw_or1 (pt_not (pt_val (gc (ok_is_toll T) (hr.mono (by decide)) (T.g 4) pn (pa_cons (pv 1) pa_nil))))))) (pss_one ps_never) pss_nil)), ?_⟩
    walk_at "rd"
    refine is_costs_yes hd o fun H' e => ⟨_, rfl, iteF ?_⟩
    walk_at "rd"
    exact is_toll_yes o ⟨_, rfl, iteF (k H' e)⟩
theorem sc_how_many : FnScope ["costs"] ["costs"] (defScope show_many) := ⟨rfl, rfl, rfl, by decide +kernel, rfl, by decide +kernel, by decide +kernel⟩
theorem ok_how_many (T : Tx fa fn K mg) : GFn P w K mg base 1 (He.fAd K dhow_many.at_) ["costs"] (sp_how_many K) := by
  obtain ⟨fd, F⟩ := T.says.def_ 6 (d := dhow_many) rfl
  refine ok0 F sc_how_many (fun vs H Q E h => ?_) (fun _ _ _ _ _ _ us hl => match us, hl with | [_], _ => rfl) (fun cdv A outer s H vs Q E hr h => ?_)
  · obtain ⟨x, toll, n, rows, rfl, _⟩ := h
    rfl
  · obtain ⟨x, toll, n, rows, rfl, hd, o, k⟩ := h
    refine ⟨_, (pss_one (ps_ret (pe_ifExp (pt_cmpR (neK K hr.rm.units) (pv 0) (pe_tup pa_nil) (nomark _)) (pe_callB (cLen K) (by rfl) (T.b 63) (by decide +kernel) (pa_cons (pe_ix (ixT K) (pv 0) pe_int (fun _ _ => rfl)) pa_nil)) pe_int))), ?_⟩
    refine ⟨_, rfl, by show 0 ≤ sizeLine; exact Nat.zero_le _, fun p hp => ?_⟩
    have e1 := ex_new (o := .tup []) hp
    obtain ⟨a, xs, c⟩ := cost_at (dp_sb (ex_sb e1) hd)
    refine ⟨_, _, c.dp, dp_empty, shaped_costs rows, shaped_nil, _, rfl, ?_⟩
    rw [eqv_nil]
    cases rows with
    | nil =>
      have := o.none rfl
      subst this
      exact k _ e1
    | cons r rs =>
      obtain ⟨b, hb, hs⟩ := c.get 0 r rfl
      have ev := c.ev
      subst ev
      refine ⟨_, rfl, _, _, _, _, rfl, rfl, c.sq, atI_nat (j := 0) hb, b, r.map V.int, rfl, .inr hs, ?_⟩
      rw [List.length_map, o.row List.mem_cons_self]
      exact k _ e1
theorem sc_turned_for : FnScope ["ahead", "kind", "toll"] ["ahead", "kind", "toll"] (defScope sturned_for) := ⟨rfl, rfl, rfl, by decide +kernel, rfl, by decide +kernel, by decide +kernel⟩
theorem ok_turned_for (T : Tx fa fn K mg) : GFn P w K mg base 1 (He.fAd K dturned_for.at_) ["ahead", "kind", "toll"] sp_turned_for := by
  obtain ⟨fd, F⟩ := T.says.def_ 7 (d := dturned_for) rfl
  refine ok0 F sc_turned_for (fun vs H Q E h => ?_) (fun _ _ _ _ _ _ us hl => match us, hl with | [_, _, _], _ => rfl) (fun cdv A outer s H vs Q E hr h => ?_)
  · obtain ⟨a, b, t, rfl, _⟩ := h
    rfl
  · obtain ⟨a, b, t, rfl, k⟩ := h
    refine ⟨_, (pss_one (ps_ret (pe_ifExp (pt_cmpR op_eq (pv 0) (pv 1) (nomark _)) pe_int (pv 2)))), ?_⟩
    refine ⟨_, rfl, _, rfl, rfl, _, rfl, ?_⟩
    by_cases e : a = b
    · subst e
      rw [decide_eq_true rfl]
      have z : UM.turn t a a = 0 := if_pos rfl
      rw [z] at k
      exact k
    · have e2 : ¬ (V.int (a : Int) = V.int (b : Int)) := fun q => e (by cases q; rfl)
      rw [decide_eq_false e2]
      have z : UM.turn t a b = t := if_neg e
      rw [z] at k
      exact ⟨_, rfl, k⟩
theorem sc_is_choice : FnScope ["costs", "thing", "kind"] ["costs", "thing"] (defScope sis_choice) := ⟨rfl, rfl, rfl, by decide +kernel, rfl, by decide +kernel, by decide +kernel⟩
theorem ok_is_choice (T : Tx fa fn K mg) : GFn P w K mg base 3 (He.fAd K dis_choice.at_) ["costs", "thing"] (sp_is_choice K) := by
  obtain ⟨fd, F⟩ := T.says.def_ 8 (d := dis_choice) rfl
  refine ok0 F sc_is_choice (fun vs H Q E h => ?_) (fun _ _ _ _ _ _ us hl => match us, hl with | [_, _], _ => rfl) (fun cdv A outer s H vs Q E hr h => ?_)
  · obtain ⟨x, y, toll, n, rows, d, rfl, _⟩ := h
    rfl
  · obtain ⟨x, y, toll, n, rows, d, rfl, hx, o, hd, hz, k⟩ := h
    refine ⟨_, (pss_cons (ps_if (PW.pt (pw_or (pt_not (pt_val (isaK2 K (pe_isa isa_tuple (T.b 62) (T.b 73) (by decide +kernel) (pv 1))))) (pw_or1 (pt_cmpR op_ne (pe_callB (cLen K) (by rfl) (T.b 63) (by decide +kernel) (pa_cons (pv 1) pa_nil)) (pe_callB (cLen K) (by rfl) (T.b 63) (by decide +kernel) (pa_cons (pv 0) pa_nil)) (nomark _))))) (pss_one (ps_ret pe_bl)) pss_nil)
      (pss_one (ps_ret (pe_callB (cAll K rfl) (by rfl) (T.b 58) (by decide +kernel) (pa_cons (pe_lc (own := [("kind", 2)]) (g := gName 2) (tt := tYes) rfl sc_is_choice.nd (piT K (pv 1)) (blkOk_by (N := ["costs", "thing", "kind"]) (sc := defScope sis_choice) (by decide +kernel)) (fun _ _ _ _ _ => pg_name (i := 2) sc_is_choice.nd rfl (Or.inl rfl)) (fun _ _ _ _ _ => pts_nil) (fun _ _ _ _ _ => (gc (ok_is_between T) (hr.mono (by decide)) (T.g 1) pn (pa_cons (pv 2) (pa_cons pe_int (pa_cons (pe_op op_sub (gc (ok_how_many T) (hr.mono (by decide)) (T.g 6) pn (pa_cons (pv 0) pa_nil)) pe_int) pa_nil)))))) pa_nil))))), ?_⟩
    refine ⟨_, rfl, _, hd, _, rfl, ifB (fun e => ?_) (fun e => ?_)⟩
    · have z : chOk rows.length n d = false := by cases d <;> first | rfl | cases e
      rw [← z]
      exact iteT (k H (Evl.Ex.refl H))
    · cases hd with
      | tup hs ha =>
        rename_i a xs ds
        obtain ⟨b, ys, c⟩ := cost_at hx
        have hl := dpa_len ha
        have ev := c.ev
        subst ev
        refine ⟨_, rfl, a, xs, rfl, .inr hs, _, rfl, b, ys, rfl, .inr c.sq, rfl, _, rfl, ifB (fun e => ?_) (fun e => ?_)⟩
        · have z : chOk rows.length n (.tuple ds) = false := by
            show (decide (ds.length = rows.length) && _) = false
            have e2 : ¬ (ds.length = rows.length) := by
              intro q
              rw [hl, q, c.len] at e
              simp at e
            rw [decide_eq_false e2, Bool.false_and]
          rw [← z]
          exact k H (Evl.Ex.refl H)
        · have e2 : ds.length = rows.length := by
            have e3 : (xs.length : Int) = ys.length := by simpa using e
            have := c.len
            omega
          walk_at "rd"
          refine lcT_map (zs := ds) (fun d => V.bl (btw 0 ((n : Int) - 1) d)) (val_var rfl) hs hl (by rw [hl]; exact hz ds rfl) (fun _ => by rfl) (fun i x d hx hd H2 e2 R q => ?_) fun D H' hD e1 hl1 => ?_
          · obtain ⟨d', hd', hdp⟩ := dpa_get ha hx
            rw [hd] at hd'
            cases hd'
            walk_at "rd"
            refine ⟨_, _, _, _, rfl, dp_sb (ex_sb e2) c.dp, o, fun H3 e3 => ?_⟩
            walk_at "rd"
            exact ⟨_, _, _, _, rfl, dp_sb (ex_sb (Evl.Ex.trans e2 e3)) hdp, q H3 e3⟩
          · refine ⟨D, ds.map (btw 0 ((n : Int) - 1)), rfl, by rw [List.map_map]; exact SqL.of hl1, ?_⟩
            have z : chOk rows.length n (.tuple ds) = (ds.map (btw 0 ((n : Int) - 1))).all id := by
              show (decide (ds.length = rows.length) && _) = _
              rw [decide_eq_true e2, Bool.true_and, List.all_map]
              rfl
            rw [← z]
            exact k H' e1
      | _ => cases e
theorem sc_cost : FnScope ["costs", "toll", "choice", "paid", "ahead", "row", "kind"] ["costs", "toll", "choice"] (defScope scost) := ⟨rfl, rfl, rfl, by decide +kernel, rfl, by decide +kernel, by decide +kernel⟩
theorem ok_cost (T : Tx fa fn K mg) : GFn P w K mg base 6 (He.fAd K dcost.at_) ["costs", "toll", "choice"] (sp_cost K) := by
  obtain ⟨fd, F⟩ := T.says.def_ 9 (d := dcost) rfl
  refine ok0 F sc_cost (fun vs H Q E h => ?_) (fun _ _ _ _ _ _ us hl => match us, hl with | [_, _, _], _ => rfl) (fun cdv A outer s H vs Q E hr h => ?_)
  · obtain ⟨x, y, toll, n, rows, d, rfl, _⟩ := h
    rfl
  · obtain ⟨x, y, toll, n, rows, c, rfl, hx, o, hd, hc, k⟩ := h
    refine ⟨_, (pss_cons (ps_expr (gc (ok_need_costs T) (hr.mono (by decide)) (T.g 5) pn (pa_cons (pv 0) (pa_cons (pv 1) pa_nil))))
      (pss_cons (ps_if (pt_not (pt_val (gc (ok_is_choice T) (hr.mono (by decide)) (T.g 8) pn (pa_cons (pv 0) (pa_cons (pv 2) pa_nil))))) (pss_one ps_never) pss_nil)
      (pss_cons (ps_set (i := 3) sc_cost.nd rfl (Or.inl rfl) pe_int)
      (pss_cons (ps_set (i := 4) sc_cost.nd rfl (Or.inl rfl) pe_int)
      (pss_cons (ps_for (by first | exact PassesOwn.never | exact passes_of rfl) rfl (RZ.pi_zipA rfl (T.b 74) (pa_cons (pv 0) (pa_cons (pv 2) pa_nil))) (gtupK K (n := 2) rfl (pgs_cons (pg_name (i := 5) sc_cost.nd rfl (Or.inl rfl)) (pgs_cons (pg_name (i := 6) sc_cost.nd rfl (Or.inl rfl)) pgs_nil))) (pss_cons (ps_aug (i := 3) sc_cost.nd rfl (Or.inl rfl) (pe_op op_add (pe_ix (ixT K) (pv 5) (pv 6) (fun _ _ => rfl)) (gc (ok_turned_for T) (hr.mono (by decide)) (T.g 7) pn (pa_cons (pv 4) (pa_cons (pv 6) (pa_cons (pv 1) pa_nil))))) ip_add)
      (pss_one (ps_set (i := 4) sc_cost.nd rfl (Or.inl rfl) (pv 6)))))
      (pss_one (ps_ret (pv 3)))))))), ?_⟩
    walk_at "rd"
    refine ⟨_, _, _, _, rfl, hx, o, fun H1 e1 => ?_⟩
    walk_at "rd"
    refine ⟨_, _, _, _, _, _, rfl, dp_sb (ex_sb e1) hx, o, dp_sb (ex_sb e1) hd, short_ints _ (by rw [List.length_map, hc.len]; have := o.m; omega), fun H2 e2 => ?_⟩
    rw [chOk_yes hc]
    refine ⟨_, rfl, iteF ?_⟩
    walk_at "rd"
    have e12 := Evl.Ex.trans e1 e2
    obtain ⟨a, xs, ca⟩ := cost_at (dp_sb (ex_sb e12) hx)
    obtain ⟨b, eb, hb⟩ := dp_ints (dp_sb (ex_sb e12) hd)
    have ev := ca.ev
    subst ev eb
    have hlen : xs.length = ((c.map fun k : Nat => (k : Int)).map V.int).length := by rw [ca.len, List.length_map, List.length_map, hc.len]
    refine ⟨a, b, _, _, rfl, .inr ⟨ca.sq, hb, ?_⟩⟩
    refine forW (walk_zipT (K := K) (a := a) (b := b) hlen) (fun i σ H' => Ex H2 H' ∧ ∃ u v, σ = [some (.ref a), some (.int toll), some (.ref b), some (.int (UM.C toll rows (fun p => c.getD p 0) i)), some (.int ((UM.prev (fun p => c.getD p 0) i : Nat) : Int)), u, v]) ⟨Evl.Ex.refl _, _, _, rfl⟩
      (fun i σ H' _ p => ⟨(ex_sb p.1).t _ _ ca.sq, (ex_sb p.1).t _ _ hb⟩) (fun i z σ H3 H4 hi p y => ?_) (fun σ H' p => ?_)
    · obtain ⟨e3, u, v, rfl⟩ := p
      obtain ⟨T', r, kd, rfl, hT, rfl, hr1, hk1⟩ := y
      refine r_pair (SqT.of upd_same) ?_
      obtain ⟨ek, hci⟩ := get_nats hk1
      subst ek
      have him : i < rows.length := by rw [← ca.len]; exact hi
      obtain ⟨br, hbr, hsr⟩ := ca.get i _ (row_get him)
      have er : r = .ref br := Option.some.inj (hr1.symm.trans hbr)
      subst er
      have e4 := ex_newT (o := .tup [V.ref br, .int ((c.getD i 0 : Nat) : Int)]) e3 hT
      have hlt : c.getD i 0 < (UM.row rows i).length := by
        rw [o.g.len i him]
        exact hc.at hci
      walk_at "rd"
      refine r_ixT ((ex_sb e4).t _ _ hsr) (at_ints hlt) ?_
      walk_at "rd"
      refine ⟨_, _, _, rfl, ?_⟩
      walk_at "rd"
      refine ⟨e4, ?_⟩
      rw [prev_succ]
      exact ⟨_, _, rfl⟩
    · obtain ⟨e3, u, v, rfl⟩ := p
      walk_at "rd"
      rw [ca.len]
      exact k _ (Evl.Ex.trans e12 e3)
end
end PU
/-! PPaper: by_kinds, paper_of, cheapest. -/
namespace PU
open PySem PySem.Spec PyProof.Rows L2 Ts K96
local macro_rules | `(tactic| walk_at "rd1") => `(tactic| first
  | with_reducible refine r_seq ?_ | with_reducible refine r_ret ?_ | with_reducible refine r_asg ?_ | with_reducible refine r_drop ?_ | with_reducible refine r_ifS ?_ | with_reducible refine r_next ?_
  | (with_reducible refine r_varE ?_; refine ⟨_, rfl, ?_⟩) | with_reducible refine r_c ?_ | with_reducible refine r_op ?_ | with_reducible refine r_I0 ?_ | (with_reducible refine r_eq ?h1 ?_; (case h1 => exact rfl)) | (with_reducible refine r_ne ?h1 ?_; (case h1 => exact rfl))
  | with_reducible refine r_nil ?_ | with_reducible refine r_cons ?_ | with_reducible refine r_cb ?_ | with_reducible refine r_call ?_ | with_reducible refine r_test ?_ | with_reducible refine r_tB ?_ | with_reducible refine r_bll ?_ | with_reducible refine r_int ?_
  | with_reducible refine r_not ?_ | with_reducible refine r_and ?_ | with_reducible refine r_or ?_ | with_reducible refine r_if ?_ | with_reducible refine r_isa ?_ | with_reducible refine r_tup ?_ | with_reducible refine r_lst ?_
  | with_reducible refine r_for ?_ | with_reducible refine r_iTup ?_ | with_reducible refine r_iList ?_ | with_reducible refine r_rng1 ?_ | with_reducible refine r_rng2 ?_ | with_reducible refine r_zipA ?_ | with_reducible refine r_enT ?_ | with_reducible refine r_zipM ?_ | with_reducible refine r_bmG ?_ | with_reducible refine r_enL ?_ | with_reducible refine r_revA ?_
  | (with_reducible refine r_augE ?_; refine ⟨_, rfl, ?_⟩) | with_reducible refine r_ipI ?_ | with_reducible refine r_rAdd ?_ | with_reducible refine r_bm ?_ | with_reducible refine r_bm0 ?_ | with_reducible refine r_gn ?_ | with_reducible refine r_asgG ?_
  | with_reducible refine r_sl ?_ | with_reducible refine r_nop ?_ | with_reducible refine r_part ?_ | with_reducible refine r_chain ?_ | with_reducible refine r_un ?_ | with_reducible refine r_rU ?_ | with_reducible refine r_fldE ?_ | with_reducible refine r_sfld ?_ | with_reducible refine r_sfldaug ?_ | with_reducible refine r_lstRg ?_ | with_reducible refine r_rg1 ?_ | with_reducible refine r_dget ?_ | with_reducible refine r_dput ?_ | with_reducible refine r_disp ?_ | with_reducible refine r_gsub ?_ | with_reducible refine r_pairC ?_ | with_reducible refine r_pairN ?_ | with_reducible refine r_meth ?_ | with_reducible refine r_make ?_ | with_reducible refine iteT ?_ | with_reducible refine iteF ?_)
local macro_rules | `(tactic| walk_at "rd") => `(tactic| repeat walk_at "rd1")

/-- rows of ints, each a tuple -/
structure Rws (K : PySem.W.Frag) (H : Hp) (vs : List V) (rows : List (List Int)) : Prop where
  len : vs.length = rows.length
  get : ∀ (i : Nat) (r : List Int), rows[i]? = some r → ∃ b, vs[i]? = some (V.ref b) ∧ SqT K H b (r.map V.int)
theorem sqt_kp {K : PySem.W.Frag} {L p : Addr} {H H' : Hp} {xs ys : List V} (k : Kp [L] H H') (hL : H L = some (.lst xs)) (h : SqT K H p ys) : SqT K H' p ys := by
  have st : ∀ o, H p = some o → o ≠ .lst xs → H' p = some o := fun o e hn => k p o e fun m => by
    rw [List.mem_singleton.mp m, hL] at e
    cases e
    exact hn rfl
  rcases h with (h | ⟨o, h⟩) | h
  · exact .inl (.inl (st _ h (fun z => by cases z)))
  · exact .inl (.inr ⟨o, st _ h (fun z => by cases z)⟩)
  · exact .inr h
theorem Rws.map {K : PySem.W.Frag} {H H' : Hp} {vs : List V} {rows : List (List Int)} (h : Rws K H vs rows) (t : ∀ p ys, SqT K H p ys → SqT K H' p ys) : Rws K H' vs rows :=
  ⟨h.len, fun i r e => by
    obtain ⟨b, h1, h2⟩ := h.get i r e
    exact ⟨b, h1, t _ _ h2⟩⟩
theorem Rws.snoc {K : PySem.W.Frag} {H : Hp} {vs : List V} {rows : List (List Int)} (h : Rws K H vs rows) {b : Addr} {r : List Int} (hb : SqT K H b (r.map V.int)) : Rws K H (vs ++ [.ref b]) (rows ++ [r]) := by
  refine ⟨by simp [h.len], fun i q e => ?_⟩
  by_cases hi : i < rows.length
  · rw [List.getElem?_append_left hi] at e
    obtain ⟨c, h1, h2⟩ := h.get i q e
    exact ⟨c, by rw [List.getElem?_append_left (by rw [h.len]; exact hi)]; exact h1, h2⟩
  · rw [List.getElem?_append_right (by omega)] at e
    have z : i - rows.length = 0 := by
      apply Classical.byContradiction
      intro n
      rw [List.getElem?_eq_none (by simp; omega)] at e
      cases e
    rw [z] at e
    cases e
    refine ⟨b, ?_, hb⟩
    rw [List.getElem?_append_right (by rw [h.len]; omega), h.len, z]
    rfl
theorem rws_dpa {K : PySem.W.Frag} {H : Hp} : ∀ {vs : List V} {rows : List (List Int)}, Rws K H vs rows → DpAll K H vs (rows.map dInts)
  | [], [], _ => .nil
  | [], _ :: _, h => absurd h.len (by simp)
  | _ :: _, [], h => absurd h.len (by simp)
  | v :: vs, r :: rows, h => by
    obtain ⟨b, h1, h2⟩ := h.get 0 r rfl
    cases h1
    exact .cons (dp_of_ints h2) (rws_dpa ⟨by simpa using h.len, fun i q e => h.get (i + 1) q e⟩)
/-- Python's by_kinds -/
def sp_by_kinds (K : PySem.W.Frag) : Sp := fun vs H Q _ => ∃ pr pl toll n r l a, vs = [.ref pr, .ref pl, .int toll, .int ((a : Nat) : Int)] ∧ SqT K H pr (r.map V.int) ∧ SqT K H pl (l.map V.int) ∧ r.length = n ∧ l.length = n ∧ n ≤ 5 ∧
  ∀ D H', H D = none → Ex H H' → H' D = some (.lst ((UM.bk toll n r l a).map V.int)) → Q (.ref D) H'
/-- Python's paper_of -/
def sp_paper_of (K : PySem.W.Frag) : Sp := fun vs H Q _ => ∃ x toll n rows, vs = [x, .int toll] ∧ Dp K H x (dCosts rows) ∧ Okc toll n rows ∧ ∀ t H', Ex H H' → Dp K H' (.ref t) (dCosts (UM.pap toll n rows)) → Q (.ref t) H'
theorem rep_flat (n : Nat) (x : V) : (List.replicate n [x]).flatten = List.replicate n x := by
  induction n with
  | zero => rfl
  | succ n ih => rw [List.replicate_succ, List.flatten_cons, ih, List.replicate_succ]; rfl
theorem r_mul {K : PySem.W.Frag} {H : Hp} {Q : VK} {z : Addr} {n : Nat} {x : V} (hz : SqT K H z [x]) (h1 : 1 ≤ n) (h2 : n ≤ 1000) (k : ∀ q H', Ex H H' → SqT K H' q (List.replicate n x) → Q (.ref q) H') : rTupMul K (.ref z) (.int (n : Int)) H Q := by
  refine ⟨z, n, [x], rfl, rfl, hz, by simp, by omega, by omega, by show 1 ≤ 1000; decide, fun e => ?_, fun p hp => ?_⟩
  · have en : n = 1 := by omega
    exact k z H (Evl.Ex.refl H) (by rw [en]; exact hz)
  · refine k p _ (ex_new hp) (SqT.of ?_)
    rw [upd_same, Int.toNat_natCast, rep_flat]
theorem Rws.rev {K : PySem.W.Frag} {H : Hp} {vs : List V} {rows : List (List Int)} (h : Rws K H vs rows) : Rws K H vs.reverse rows.reverse := by
  refine ⟨by simp [h.len], fun i r e => ?_⟩
  have hi : i < rows.length := by
    have := (List.getElem?_eq_some_iff.mp e).1
    simpa using this
  rw [List.getElem?_reverse hi] at e
  obtain ⟨b, h1, h2⟩ := h.get _ r e
  exact ⟨b, by rw [List.getElem?_reverse (by rw [h.len]; exact hi), h.len]; exact h1, h2⟩
theorem pap_rev {toll : Int} {n : Nat} (rows : List (List Int)) : ((List.range (rows.length + 1)).map fun j => UM.top toll n (rows.drop (rows.length - j))).reverse = UM.pap toll n rows := by
  refine List.ext_getElem? fun i => ?_
  by_cases hi : i < rows.length + 1
  · rw [UM.pap_get rows i (by omega), List.getElem?_reverse (by simpa using hi), List.getElem?_map, List.length_map, List.length_range, List.getElem?_range (by omega)]
    show some (UM.top toll n (rows.drop (rows.length - (rows.length + 1 - 1 - i)))) = _
    congr 3
    omega
  · rw [List.getElem?_eq_none (by simp; omega), List.getElem?_eq_none (by rw [UM.pap_len]; omega)]
theorem atI_last' {xs : List V} {v : V} (h : xs[xs.length - 1]? = some v) : atI xs (-1) = some v := by
  have h1 := (List.getElem?_eq_some_iff.mp h).1
  have e : ixN xs.length (-1) = some (xs.length - 1) := by
    unfold ixN
    rw [if_neg (by decide), if_pos (by omega)]
    congr 1
    omega
  unfold atI
  rw [e]
  exact h
/-- Python's cheapest, of which the number alone is told -/
def sp_cheapest (K : PySem.W.Frag) : Sp := fun vs H Q _ => ∃ x toll n rows, vs = [x, .int toll] ∧ Dp K H x (dCosts rows) ∧ Okc toll n rows ∧
  ∀ t H' u v, Ex H H' → H' t = some (.tup [u, .int (UM.at0 (UM.top toll n rows) 0), v]) → Q (.ref t) H'
theorem first_at {xs : List Int} {x : Int} (h : x ∈ xs) : ∃ j, j < xs.length ∧ (xs.map V.int)[j]? = some (.int x) ∧ ∀ (m : Nat) (z : V), m < j → (xs.map V.int)[m]? = some z → eqV z (.int x) = false := by
  induction xs with
  | nil => cases h
  | cons y ys ih =>
    by_cases e : y = x
    · subst e
      exact ⟨0, Nat.succ_pos _, rfl, fun m z hm _ => absurd hm (Nat.not_lt_zero m)⟩
    · rcases List.mem_cons.mp h with q | q
      · exact absurd q.symm e
      · obtain ⟨j, hj, h1, h2⟩ := ih q
        refine ⟨j + 1, Nat.succ_lt_succ hj, h1, fun m z hm hz => ?_⟩
        cases m with
        | zero =>
          cases hz
          show (y == x) = false
          exact beq_false_of_ne e
        | succ m => exact h2 m z (Nat.lt_of_succ_lt_succ hm) hz
theorem flat_ints (xs : List Int) : (xs.map V.int).all flatV = true := by
  rw [List.all_map, List.all_eq_true]
  intro x _
  rfl
theorem costs_rws {K : PySem.W.Frag} {H : Hp} {x : V} {rows : List (List Int)} (h : Dp K H x (dCosts rows)) : ∃ a vs, x = .ref a ∧ SqT K H a vs ∧ Rws K H vs rows := by
  obtain ⟨a, vs, c⟩ := cost_at h
  exact ⟨a, vs, c.ev, c.sq, c.len, c.get⟩
section
variable {P : Program} {w : World} {K : PySem.W.Frag} {mg : Str → Option Value} {base : Heap}
theorem sc_by_kinds : FnScope ["row", "later", "toll", "ahead", "kind"] ["row", "later", "toll", "ahead"] (defScope sby_kinds) := ⟨rfl, rfl, rfl, by decide +kernel, rfl, by decide +kernel, by decide +kernel⟩
theorem ok_by_kinds (T : Tx fa fn K mg) : GFn P w K mg base 2 (He.fAd K dby_kinds.at_) ["row", "later", "toll", "ahead"] (sp_by_kinds K) := by
  obtain ⟨fd, F⟩ := T.says.def_ 10 (d := dby_kinds) rfl
  refine ok0 F sc_by_kinds (fun vs H Q E h => ?_) (fun _ _ _ _ _ _ us hl => match us, hl with | [_, _, _, _], _ => rfl) (fun cdv A outer s H vs Q E hr h => ?_)
  · obtain ⟨pr, pl, toll, n, r, l, a, rfl, _⟩ := h
    rfl
  · obtain ⟨pr, pl, toll, n, r, l, a, rfl, hr1, hl1, e1, e2, n5, k⟩ := h
    refine ⟨_, (pss_one (ps_ret (pe_lc (own := [("kind", 4)]) (g := gName 4) (tt := tYes) rfl sc_by_kinds.nd (pi_range1 rfl (T.b 67) (pa_cons (pe_callB (cLen K) (by rfl) (T.b 63) (by decide +kernel) (pa_cons (pv 0) pa_nil)) pa_nil)) (blkOk_by (N := ["row", "later", "toll", "ahead", "kind"]) (sc := defScope sby_kinds) (by decide +kernel)) (fun _ _ _ _ _ => pg_name (i := 4) sc_by_kinds.nd rfl (Or.inl rfl)) (fun _ _ _ _ _ => pts_nil) (fun _ _ _ _ _ => (pe_op op_add (pe_op op_add (pe_ix (ixT K) (pv 0) (pv 4) (fun _ _ => rfl)) (pe_ix (ixT K) (pv 1) (pv 4) (fun _ _ => rfl))) (gc (ok_turned_for T) (hr.mono (by decide)) (T.g 7) pn (pa_cons (pv 3) (pa_cons (pv 4) (pa_cons (pv 2) pa_nil))))))))), ?_⟩
    walk_at "rd"
    refine lcR_map (n := n) (fun k => V.int (UM.at0 r k + UM.at0 l k + UM.turn toll a k)) (by omega) (fun R q => ?_) (fun _ => by rfl) (fun i hi H' e R q => ?_) (fun D H' hD e h1 => ?_)
    · walk_at "rd"
      exact ⟨pr, _, rfl, .inr hr1, by rw [List.length_map, e1]; exact q⟩
    · walk_at "rd"
      refine r_ixT ((ex_sb e).t _ _ hr1) (at_ints (by omega)) ?_
      walk_at "rd"
      refine r_ixT ((ex_sb e).t _ _ hl1) (at_ints (by omega)) ?_
      walk_at "rd"
      refine ⟨_, _, _, rfl, ?_⟩
      walk_at "rd"
      exact q _ (Evl.Ex.refl _)
    · refine k D H' hD e ?_
      rw [h1]
      unfold UM.bk
      rw [List.map_map]
      rfl
theorem sc_paper_of : FnScope ["costs", "toll", "many", "rows", "row", "later", "ahead"] ["costs", "toll"] (defScope spaper_of) := ⟨rfl, rfl, rfl, by decide +kernel, rfl, by decide +kernel, by decide +kernel⟩
theorem ok_paper_of (T : Tx fa fn K mg) : GFn P w K mg base 3 (He.fAd K dpaper_of.at_) ["costs", "toll"] (sp_paper_of K) := by
  obtain ⟨fd, F⟩ := T.says.def_ 11 (d := dpaper_of) rfl
  refine ok0 F sc_paper_of (fun vs H Q E h => ?_) (fun _ _ _ _ _ _ us hl => match us, hl with | [_, _], _ => rfl) (fun cdv A outer s H vs Q E hr h => ?_)
  · obtain ⟨x, toll, n, rows, rfl, _⟩ := h
    rfl
  · obtain ⟨x, toll, n, rows, rfl, hd, o, k⟩ := h
    have n1 := o.g.n1
    have n5 := o.n2
    have hm := o.m
    refine ⟨_, (pss_cons (ps_set (i := 2) sc_paper_of.nd rfl (Or.inl rfl) (gc (ok_how_many T) (hr.mono (by decide)) (T.g 6) pn (pa_cons (pv 0) pa_nil)))
      (pss_cons (ps_set (i := 3) sc_paper_of.nd rfl (Or.inl rfl) (pe_lst (pa_cons (pe_op (mulT K) (pe_tup (pa_cons pe_int pa_nil)) (pv 2)) pa_nil)))
      (pss_cons (ps_for (by first | exact PassesOwn.never | exact passes_of rfl) rfl (RT.pi_revA rfl (T.b 69) (pv 0)) (pg_name (i := 4) sc_paper_of.nd rfl (Or.inr rfl)) (pss_cons (ps_set (i := 5) sc_paper_of.nd rfl (Or.inr rfl) (pe_ix (ixL K) (pv 3) (pe_un un_neg pe_int) (fun _ _ => rfl)))
      (pss_one (ps_expr (bmK K (pe_bm PySem.F.plainAttrs_list PySem.F.slot_list_append PySem.F.type_list_append mt_append (pv 3) (pa_cons (pe_callTy (cTup K) (by rfl) (T.b 73) (by decide +kernel) (pa_cons (pe_lc (own := [("ahead", 6)]) (g := gName 6) (tt := tYes) rfl sc_paper_of.nd (pi_range1 rfl (T.b 67) (pa_cons (pv 2) pa_nil)) (blkOk_by (N := ["costs", "toll", "many", "rows", "row", "later", "ahead"]) (sc := defScope spaper_of) (by decide +kernel)) (fun _ _ _ _ _ => pg_name (i := 6) sc_paper_of.nd rfl (Or.inl rfl)) (fun _ _ _ _ _ => pts_nil) (fun _ _ _ _ _ => (pe_callB (cMin K rfl) (by rfl) (T.b 66) (by decide +kernel) (pa_cons (gc (ok_by_kinds T) (hr.mono (by decide)) (T.g 10) pn (pa_cons (pv 4) (pa_cons (pv 5) (pa_cons (pv 1) (pa_cons (pv 6) pa_nil))))) pa_nil)))) pa_nil)) pa_nil)))))))
      (pss_one (ps_ret (pe_callTy (cTup K) (by rfl) (T.b 73) (by decide +kernel) (pa_cons (revLK K (pv 3)) pa_nil))))))), ?_⟩
    obtain ⟨a, xs, ca⟩ := cost_at hd
    have ev := ca.ev
    subst ev
    walk_at "rd"
    refine ⟨_, _, _, _, rfl, hd, o, fun H1 e1 => ?_⟩
    walk_at "rd"
    refine ⟨Nat.le_of_lt (small_line (by decide)), fun z hz => ?_⟩
    walk_at "rd"
    have e2 := ex_newT (o := .tup [V.int 0]) e1 hz
    refine r_mul (SqT.of upd_same) n1 (by omega) fun q H2 e3 hq => ?_
    have e4 := Evl.Ex.trans e2 e3
    walk_at "rd"
    refine ⟨Nat.le_of_lt (small_line (by show 1 ≤ 1000000; decide)), fun L hL => ?_⟩
    have hL0 := ex_free e4 hL
    have e5 := ex_newT (o := .lst [V.ref q]) e4 hL
    walk_at "rd"
    refine ⟨a, xs, rfl, .inr ⟨(ex_sb e5).t _ _ ca.sq, ?_⟩⟩
    have st0 : Rws K (upd H2 L (.lst [V.ref q])) [V.ref q] ((List.range (0 + 1)).map fun j => UM.top toll n (rows.drop (rows.length - j))) := by
      refine ⟨rfl, fun i r e => ?_⟩
      cases i with
      | succ i => cases e
      | zero =>
        refine ⟨q, rfl, ?_⟩
        have er : r = List.replicate n 0 := by
          have z : UM.top toll n (rows.drop (rows.length - 0)) = r := Option.some.inj e
          rw [← z, Nat.sub_zero, List.drop_length]
          rfl
        rw [er, List.map_replicate]
        exact (ex_sb (ex_new hL)).t _ _ hq
    refine forW walk_revT (fun i σ H' => ∃ u v, σ = [some (.ref a), some (.int toll), some (.int (n : Int)), some (.ref L), u, v, none] ∧ Ex H H' ∧ ∃ vs, H' L = some (.lst vs) ∧ Rws K H' vs ((List.range (i + 1)).map fun j => UM.top toll n (rows.drop (rows.length - j))))
      ⟨_, _, rfl, e5, _, upd_same, st0⟩ (fun i σ H' _ p => ?_) (fun i z σ H3 H4 hi p y => ?_) (fun σ H' p => ?_)
    · obtain ⟨u, v, rfl, e6, _⟩ := p
      exact (ex_sb e6).t _ _ ca.sq
    · obtain ⟨u, v, rfl, e6, vs, hv, hw⟩ := p
      obtain ⟨rfl, hz1⟩ := y
      have hmi : i < rows.length := by rw [← ca.len]; exact hi
      have hlv : vs.length = i + 1 := by rw [hw.len, List.length_map, List.length_range]
      obtain ⟨br, hbr, hsr⟩ := ca.get (rows.length - 1 - i) _ (row_get (by omega))
      have er : z = .ref br := by
        rw [ca.len] at hz1
        exact Option.some.inj (hz1.symm.trans hbr)
      subst er
      obtain ⟨bl, hbl, hsl⟩ := hw.get i (UM.top toll n (rows.drop (rows.length - i))) (by rw [List.getElem?_map, List.getElem?_range (by omega)]; rfl)
      walk_at "rd"
      refine r_ixL (SqL.of hv) (atI_last' (by rw [hlv]; exact hbl)) ?_
      walk_at "rd"
      refine ⟨.inl ⟨rfl, _, SqL.of hv⟩, ?_⟩
      walk_at "rd"
      refine lcR_map (n := n) (fun a => V.int (lmin (UM.bk toll n (UM.row rows (rows.length - 1 - i)) (UM.top toll n (rows.drop (rows.length - i))) a))) (by omega) (val_var rfl) (fun _ => by rfl) (fun k hk H' e R q => ?_) (fun D H' hD e h1 => ?_)
      · walk_at "rd"
        refine ⟨_, _, _, n, _, _, _, rfl, (ex_sb (Evl.Ex.trans e6 e)).t _ _ hsr, (ex_sb e).t _ _ hsl, o.g.len _ (by omega), UM.top_len _, n5, fun D' H5 hD' e' h1 => ?_⟩
        walk_at "rd"
        exact ⟨D', _, rfl, .inl (SqL.of h1), UM.bk_ne n1 _ _ _, q _ e'⟩
      · walk_at "rd"
        refine ⟨D, _, rfl, .inl ⟨SqL.of h1, fun t ht => ?_⟩⟩
        walk_at "rd"
        have e7 := ex_newT (o := .tup ((List.range n).map fun a => V.int (lmin (UM.bk toll n (UM.row rows (rows.length - 1 - i)) (UM.top toll n (rows.drop (rows.length - i))) a)))) e ht
        have hv7 := e7 _ _ hv
        refine r_append hv7 (by omega) ?_
        walk_at "rd"
        refine ⟨_, _, rfl, ex_chg (Evl.Ex.trans e6 e7) hL0, _, upd_same, ?_⟩
        rw [List.range_succ, List.map_append]
        refine Rws.snoc (r := UM.top toll n (rows.drop (rows.length - (i + 1)))) (hw.map fun p ys h => sqt_kp (Kp.set (List.mem_singleton.mpr rfl)) hv7 ((ex_sb e7).t _ _ h)) (sqt_kp (Kp.set (List.mem_singleton.mpr rfl)) hv7 (SqT.of ?_))
        have et := UM.top_drop (toll := toll) (n := n) (rows := rows) (i := rows.length - 1 - i) (by omega)
        rw [show rows.length - 1 - i + 1 = rows.length - i by omega] at et
        rw [upd_same, show rows.length - (i + 1) = rows.length - 1 - i by omega, et, List.map_map]
        rfl
    · obtain ⟨u, v, rfl, e6, vs, hv, hw⟩ := p
      walk_at "rd"
      refine r_revL (SqL.of hv) (fun q hq => ?_) (val_var rfl)
      walk_at "rd"
      refine ⟨q, _, rfl, .inl ⟨SqL.of upd_same, fun t ht => ?_⟩⟩
      have e7 := ex_newT (o := .lst vs.reverse) e6 hq
      refine k t _ (ex_newT e7 ht) ?_
      have hw2 := hw.rev
      rw [ca.len, pap_rev] at hw2
      exact .tup (SqT.of upd_same) (rws_dpa (hw2.map fun p ys h => (ex_sb (ex_new ht)).t _ _ ((ex_sb (ex_new hq)).t _ _ h)))
end
end PU
/-! PUnd: is_whole_in, first_least, the class Under. -/
namespace PU
open PySem PySem.Spec PyProof.Rows L2 Ts K96
local macro_rules | `(tactic| walk_at "rd1") => `(tactic| first
  | with_reducible refine r_seq ?_ | with_reducible refine r_ret ?_ | with_reducible refine r_asg ?_ | with_reducible refine r_drop ?_ | with_reducible refine r_ifS ?_ | with_reducible refine r_next ?_
  | (with_reducible refine r_varE ?_; refine ⟨_, rfl, ?_⟩) | with_reducible refine r_c ?_ | with_reducible refine r_op ?_ | with_reducible refine r_I0 ?_ | (with_reducible refine r_eq ?h1 ?_; (case h1 => exact rfl)) | (with_reducible refine r_ne ?h1 ?_; (case h1 => exact rfl))
  | with_reducible refine r_nil ?_ | with_reducible refine r_cons ?_ | with_reducible refine r_cb ?_ | with_reducible refine r_call ?_ | with_reducible refine r_test ?_ | with_reducible refine r_tB ?_ | with_reducible refine r_bll ?_ | with_reducible refine r_int ?_
  | with_reducible refine r_not ?_ | with_reducible refine r_and ?_ | with_reducible refine r_or ?_ | with_reducible refine r_if ?_ | with_reducible refine r_isa ?_ | with_reducible refine r_tup ?_ | with_reducible refine r_lst ?_
  | with_reducible refine r_for ?_ | with_reducible refine r_iTup ?_ | with_reducible refine r_iList ?_ | with_reducible refine r_rng1 ?_ | with_reducible refine r_rng2 ?_ | with_reducible refine r_zipA ?_ | with_reducible refine r_enT ?_ | with_reducible refine r_zipM ?_ | with_reducible refine r_bmG ?_ | with_reducible refine r_enL ?_ | with_reducible refine r_revA ?_
  | (with_reducible refine r_augE ?_; refine ⟨_, rfl, ?_⟩) | with_reducible refine r_ipI ?_ | with_reducible refine r_rAdd ?_ | with_reducible refine r_bm ?_ | with_reducible refine r_bm0 ?_ | with_reducible refine r_gn ?_ | with_reducible refine r_asgG ?_
  | with_reducible refine r_sl ?_ | with_reducible refine r_nop ?_ | with_reducible refine r_part ?_ | with_reducible refine r_chain ?_ | with_reducible refine r_un ?_ | with_reducible refine r_rU ?_ | with_reducible refine r_fldE ?_ | with_reducible refine r_sfld ?_ | with_reducible refine r_sfldaug ?_ | with_reducible refine r_lstRg ?_ | with_reducible refine r_rg1 ?_ | with_reducible refine r_dget ?_ | with_reducible refine r_dput ?_ | with_reducible refine r_disp ?_ | with_reducible refine r_gsub ?_ | with_reducible refine r_pairC ?_ | with_reducible refine r_pairN ?_ | with_reducible refine r_meth ?_ | with_reducible refine r_make ?_ | with_reducible refine iteT ?_ | with_reducible refine iteF ?_)
local macro_rules | `(tactic| walk_at "rd") => `(tactic| repeat walk_at "rd1")

theorem dec_int {i j : Int} : decide (V.int i = V.int j) = decide (i = j) := by
  by_cases e : i = j
  · rw [decide_eq_true e, decide_eq_true (congrArg V.int e)]
  · rw [decide_eq_false e, decide_eq_false (fun z => e (by cases z; rfl))]
/-- two ints compared -/
theorem r_eqi {H : Hp} {i j : Int} {R : Bool → Hp → Prop} (k : R (decide (i = j)) H) : rEq (.int i) (.int j) H fun x H1 => ∃ c, x = .bl c ∧ R c H1 :=
  ⟨rfl, _, rfl, by rw [dec_int]; exact k⟩
theorem r_nei {H : Hp} {i j : Int} {R : Bool → Hp → Prop} (k : R (!decide (i = j)) H) : rNe (.int i) (.int j) H fun x H1 => ∃ c, x = .bl c ∧ R c H1 :=
  ⟨rfl, _, rfl, by rw [dec_int]; exact k⟩
theorem UM.firstLeast_fil (r : List Int) {places : List Nat} (h : places ≠ []) : (places.filter fun p => decide (UM.at0 r p = UM.leastOf r places))[0]? = some (UM.firstLeast r places) := by
  have hm : UM.leastOf r places ∈ places.map (UM.at0 r) := lmin_mem (by simpa using h)
  obtain ⟨q, hq, e⟩ := List.mem_map.mp hm
  have hf : q ∈ places.filter fun p => decide (UM.at0 r p = UM.leastOf r places) := List.mem_filter.mpr ⟨hq, decide_eq_true e⟩
  unfold UM.firstLeast
  cases z : places.filter fun p => decide (UM.at0 r p = UM.leastOf r places) with
  | nil =>
    rw [z] at hf
    cases hf
  | cons y ys => rfl
def sp_is_whole_in (K : PySem.W.Frag) : Sp := fun vs H Q _ => ∃ x d lo hi, vs = [x, .int lo, .int hi] ∧ Dp K H x d ∧ Q (.bl (btw lo hi d)) H
abbrev vNats (ps : List Nat) : List V := ps.map fun k : Nat => V.int (k : Int)
def sp_first_least (K : PySem.W.Frag) : Sp := fun vs H Q _ => ∃ pr pl r ps, vs = [.ref pr, .ref pl] ∧ SqT K H pr (r.map V.int) ∧ SqL K H pl (vNats ps) ∧ (∀ p ∈ ps, p < r.length) ∧ ps ≠ [] ∧ ps.length ≤ 1000 ∧
  ∀ H', Ex H H' → Q (.int ((UM.firstLeast r ps : Nat) : Int)) H'
theorem vnats_get {ps : List Nat} {i : Nat} {x : V} (h : (vNats ps)[i]? = some x) : ∃ k, ps[i]? = some k ∧ x = .int ((k : Nat) : Int) ∧ k ∈ ps := by
  rw [List.getElem?_map] at h
  cases e : ps[i]? with
  | none =>
    rw [e] at h
    cases h
  | some k =>
    rw [e] at h
    cases h
    exact ⟨k, rfl, rfl, List.mem_of_getElem? e⟩
/-- an instance's fields -/
def UF (n toll : Int) (kind : Int) (p : Addr) (paid phases : Int) : List (Str × V) :=
  [("many", .int n), ("toll", .int toll), ("kind", .int kind), ("sums", .ref p), ("paid", .int paid), ("phases", .int phases)]
structure UnAt (K : PySem.W.Frag) (H : Hp) (a : Addr) (n : Nat) (toll : Int) (s : UM.St) (p : Addr) : Prop where
  ob : ∃ dx, H a = some (.ins (He.ga K "Under") dx (UF n toll s.kind p s.paid s.phases))
  sm : SqT K H p (s.sums.map V.int)
theorem UnAt.ex {K : PySem.W.Frag} {H H' : Hp} {a p : Addr} {n : Nat} {toll : Int} {s : UM.St} (u : UnAt K H a n toll s p) (e : Ex H H') : UnAt K H' a n toll s p := by
  obtain ⟨dx, h⟩ := u.ob
  exact ⟨⟨dx, e _ _ h⟩, (ex_sb e).t _ _ u.sm⟩
theorem UnAt.sb {K : PySem.W.Frag} {H H' : Hp} {a p : Addr} {n : Nat} {toll : Int} {s : UM.St} (u : UnAt K H a n toll s p) (k : Kp [a] H H') : Sb K H H' := by
  obtain ⟨dx, h⟩ := u.ob
  exact k.sb1 h rfl
section
variable {K : PySem.W.Frag} {mg : Str → Option Value} {H : Hp} {Q : VK} {a p : Addr} {n : Nat} {toll : Int} {s : UM.St}
abbrev FldAt (K : PySem.W.Frag) (f : Str) (x : V) (H : Hp) (Q : V → Prop) : Prop := ∃ a C dx fs v, x = .ref a ∧ H a = some (.ins C dx fs) ∧ Cls K C ∧ NoAttr K C f ∧ fs.lookup f = some v ∧ Q v
theorem f_many (T : Tx fa fn K mg) (u : UnAt K H a n toll s p) {Q : V → Prop} (k : Q (.int n)) : FldAt K "many" (.ref a) H Q := by
  obtain ⟨dx, h⟩ := u.ob
  exact ⟨a, _, dx, _, _, rfl, h, T.cls 45, T.noat 47, rfl, k⟩
theorem f_toll (T : Tx fa fn K mg) (u : UnAt K H a n toll s p) {Q : V → Prop} (k : Q (.int toll)) : FldAt K "toll" (.ref a) H Q := by
  obtain ⟨dx, h⟩ := u.ob
  exact ⟨a, _, dx, _, _, rfl, h, T.cls 45, T.noat 48, rfl, k⟩
theorem f_kind (T : Tx fa fn K mg) (u : UnAt K H a n toll s p) {Q : V → Prop} (k : Q (.int s.kind)) : FldAt K "kind" (.ref a) H Q := by
  obtain ⟨dx, h⟩ := u.ob
  exact ⟨a, _, dx, _, _, rfl, h, T.cls 45, T.noat 49, rfl, k⟩
theorem f_sums (T : Tx fa fn K mg) (u : UnAt K H a n toll s p) {Q : V → Prop} (k : Q (.ref p)) : FldAt K "sums" (.ref a) H Q := by
  obtain ⟨dx, h⟩ := u.ob
  exact ⟨a, _, dx, _, _, rfl, h, T.cls 45, T.noat 50, rfl, k⟩
theorem f_paid (T : Tx fa fn K mg) (u : UnAt K H a n toll s p) {Q : V → Prop} (k : Q (.int s.paid)) : FldAt K "paid" (.ref a) H Q := by
  obtain ⟨dx, h⟩ := u.ob
  exact ⟨a, _, dx, _, _, rfl, h, T.cls 45, T.noat 51, rfl, k⟩
theorem f_phases (T : Tx fa fn K mg) (u : UnAt K H a n toll s p) {Q : V → Prop} (k : Q (.int s.phases)) : FldAt K "phases" (.ref a) H Q := by
  obtain ⟨dx, h⟩ := u.ob
  exact ⟨a, _, dx, _, _, rfl, h, T.cls 45, T.noat 52, rfl, k⟩
abbrev SetAt (K : PySem.W.Frag) (f : Str) (x : V) (y : V) (H : Hp) (R : Hp → Prop) : Prop := ∃ a C dx fs, x = .ref a ∧ H a = some (.ins C dx fs) ∧ Cls K C ∧ NoAttr K C f ∧ fs.length < 1000 ∧ R (upd H a (.ins C dx (putF f y fs)))
theorem kp_self {H : Hp} {a : Addr} {o : HO} : Kp [a] H (upd H a o) := Kp.set (List.mem_singleton.mpr rfl)
abbrev AugAt (K : PySem.W.Frag) (a C : Addr) (f : Str) (z : V) (H : Hp) (R : Hp → Prop) : Prop := ∃ dx' fs', H a = some (.ins C dx' fs') ∧ fs'.length < 1000 ∧ R (upd H a (.ins C dx' (putF f z fs')))
theorem a_phases (u : UnAt K H a n toll s p) {R : Hp → Prop} {ph : Nat} (k : ∀ H', Kp [a] H H' → UnAt K H' a n toll { s with phases := ph } p → R H') : AugAt K a (He.ga K "Under") "phases" (.int ph) H R := by
  obtain ⟨dx, h⟩ := u.ob
  exact ⟨dx, _, h, by show 6 < 1000; decide, k _ kp_self ⟨⟨dx, upd_same⟩, (u.sb kp_self).t _ _ u.sm⟩⟩
theorem a_paid (u : UnAt K H a n toll s p) {R : Hp → Prop} {pd : Int} (k : ∀ H', Kp [a] H H' → UnAt K H' a n toll { s with paid := pd } p → R H') : AugAt K a (He.ga K "Under") "paid" (.int pd) H R := by
  obtain ⟨dx, h⟩ := u.ob
  exact ⟨dx, _, h, by show 6 < 1000; decide, k _ kp_self ⟨⟨dx, upd_same⟩, (u.sb kp_self).t _ _ u.sm⟩⟩
/-- a field read, the class by name -/
abbrev FldOf (K : PySem.W.Frag) (f : Str) (x : V) (H : Hp) (Q : Addr → Addr → V → Prop) : Prop := ∃ a C dx fs v, x = .ref a ∧ H a = some (.ins C dx fs) ∧ Cls K C ∧ NoAttr K C f ∧ fs.lookup f = some v ∧ Q a C v
theorem o_phases (T : Tx fa fn K mg) (u : UnAt K H a n toll s p) {Q : Addr → Addr → V → Prop} (k : Q a (He.ga K "Under") (.int s.phases)) : FldOf K "phases" (.ref a) H Q := by
  obtain ⟨dx, h⟩ := u.ob
  exact ⟨a, _, dx, _, _, rfl, h, T.cls 45, T.noat 52, rfl, k⟩
theorem o_paid (T : Tx fa fn K mg) (u : UnAt K H a n toll s p) {Q : Addr → Addr → V → Prop} (k : Q a (He.ga K "Under") (.int s.paid)) : FldOf K "paid" (.ref a) H Q := by
  obtain ⟨dx, h⟩ := u.ob
  exact ⟨a, _, dx, _, _, rfl, h, T.cls 45, T.noat 51, rfl, k⟩
/-- a field is set: kind, sums -/
theorem g_kind (T : Tx fa fn K mg) (u : UnAt K H a n toll s p) {R : Hp → Prop} {kd : Nat} (k : ∀ H', Kp [a] H H' → UnAt K H' a n toll { s with kind := kd } p → R H') : SetAt K "kind" (.ref a) (.int kd) H R := by
  obtain ⟨dx, h⟩ := u.ob
  exact ⟨a, _, dx, _, rfl, h, T.cls 45, T.noat 49, by show 6 < 1000; decide, k _ kp_self ⟨⟨dx, upd_same⟩, (u.sb kp_self).t _ _ u.sm⟩⟩
theorem g_sums (T : Tx fa fn K mg) (u : UnAt K H a n toll s p) {R : Hp → Prop} {q : Addr} {sm : List Int} (hq : SqT K H q (sm.map V.int)) (k : ∀ H', Kp [a] H H' → UnAt K H' a n toll { s with sums := sm } q → R H') : SetAt K "sums" (.ref a) (.ref q) H R := by
  obtain ⟨dx, h⟩ := u.ob
  exact ⟨a, _, dx, _, rfl, h, T.cls 45, T.noat 50, by show 6 < 1000; decide, k _ kp_self ⟨⟨dx, upd_same⟩, (u.sb kp_self).t _ _ hq⟩⟩
end
section
variable {P : Program} {w : World} {K : PySem.W.Frag} {mg : Str → Option Value} {base : Heap}
theorem sc_is_whole_in : FnScope ["thing", "low", "high"] ["thing", "low", "high"] (defScope sis_whole_in) := ⟨rfl, rfl, rfl, by decide +kernel, rfl, by decide +kernel, by decide +kernel⟩
theorem ok_is_whole_in (T : Tx fa fn K mg) : GFn P w K mg base 2 (He.fAd K dis_whole_in.at_) ["thing", "low", "high"] (sp_is_whole_in K) := by
  obtain ⟨fd, F⟩ := T.says.def_ 15 (d := dis_whole_in) rfl
  refine ok0 F sc_is_whole_in (fun vs H Q E h => ?_) (fun _ _ _ _ _ _ us hl => match us, hl with | [_, _, _], _ => rfl) (fun cdv A outer s H vs Q E hr h => ?_)
  · obtain ⟨x, d, lo, hi, rfl, _⟩ := h
    rfl
  · obtain ⟨x, d, lo, hi, rfl, hd, k⟩ := h
    refine ⟨_, (pss_one (ps_ret (pe_and (isaK2 K (pe_isa isa_int (T.b 62) (T.b 61) (by decide +kernel) (pv 0))) (pe_and (pe_not (isaK2 K (pe_isa isa_bool (T.b 62) (T.b 59) (by decide +kernel) (pv 0)))) (pe_one (pe_chain op_le op_le (pv 1) (pv 0) (pv 2))))))), ?_⟩
    have z : (isaD "int" d && (!isaD "bool" d && btw lo hi d)) = btw lo hi d := by cases d <;> first | rfl | exact Bool.true_and _
    walk_at "rd"
    refine v_and (v_isa (val_var rfl) hd) (fun h1 => v_and (b := btw lo hi d) (v_not (v_isa (val_var rfl) hd)) (fun h2 => ?_)) _ ?_
    · cases hd with
      | int i =>
        intro R q
        walk_at "rd"
        refine ifB (fun e1 => ?_) (fun e1 => ?_)
        · walk_at "rd"
          have z : btw lo hi (.int i) = decide (i ≤ hi) := by
            show (decide (lo ≤ i) && decide (i ≤ hi)) = _
            rw [e1, Bool.true_and]
          rw [z] at q
          exact q
        · have z : btw lo hi (.int i) = false := by
            show (decide (lo ≤ i) && decide (i ≤ hi)) = _
            rw [e1, Bool.false_and]
          rw [z] at q
          exact q
      | bl b => cases h2
      | _ => cases h1
    · rw [z]
      exact k
theorem sc_first_least : FnScope ["row", "places", "least", "place"] ["row", "places"] (defScope sfirst_least) := ⟨rfl, rfl, rfl, by decide +kernel, rfl, by decide +kernel, by decide +kernel⟩
theorem ok_first_least (T : Tx fa fn K mg) : GFn P w K mg base 1 (He.fAd K dfirst_least.at_) ["row", "places"] (sp_first_least K) := by
  obtain ⟨fd, F⟩ := T.says.def_ 16 (d := dfirst_least) rfl
  refine ok0 F sc_first_least (fun vs H Q E h => ?_) (fun _ _ _ _ _ _ us hl => match us, hl with | [_, _], _ => rfl) (fun cdv A outer s H vs Q E hr h => ?_)
  · obtain ⟨pr, pl, r, ps, rfl, _⟩ := h
    rfl
  · obtain ⟨pr, pl, r, ps, rfl, hpr, hpl, hlt, hne, h3, k⟩ := h
    refine ⟨_, (pss_cons (ps_set (i := 2) sc_first_least.nd rfl (Or.inr rfl) (pe_callB (cMin K rfl) (by rfl) (T.b 66) (by decide +kernel) (pa_cons (pe_lc (own := [("place", 3)]) (g := gName 3) (tt := tYes) rfl sc_first_least.nd (piL K (pv 1)) (blkOk_by (N := ["row", "places", "least", "place"]) (sc := defScope sfirst_least) (by decide +kernel)) (fun _ _ _ _ _ => pg_name (i := 3) sc_first_least.nd rfl (Or.inl rfl)) (fun _ _ _ _ _ => pts_nil) (fun _ _ _ _ _ => (pe_ix (ixT K) (pv 0) (pv 3) (fun _ _ => rfl)))) pa_nil)))
      (pss_one (ps_ret (pe_ix (ixL K) (pe_lc (own := [("place", 3)]) (g := gName 3) rfl sc_first_least.nd (piL K (pv 1)) (blkOk_by (N := ["row", "places", "least", "place"]) (sc := defScope sfirst_least) (by decide +kernel)) (fun _ _ _ _ _ => pg_name (i := 3) sc_first_least.nd rfl (Or.inl rfl)) (fun _ _ _ _ _ => pts_one (pt_cmpR op_eq (pe_ix (ixT K) (pv 0) (pv 3) (fun _ _ => rfl)) (pv 2) (nomark _))) (fun _ _ _ _ _ => (pv 3))) pe_int (fun _ _ => rfl))))), ?_⟩
    walk_at "rd"
    refine lcL_map (zs := ps) (fun p => V.int (UM.at0 r p)) (val_var rfl) hpl (List.length_map _) (by rw [List.length_map]; omega) (fun _ => by rfl) (fun i x z hx hz H' e R q => ?_) (fun D H' hD e h1 => ?_)
    · obtain ⟨k', hk, rfl, hm⟩ := vnats_get hx
      rw [hz] at hk
      cases hk
      walk_at "rd"
      refine r_ixT ((ex_sb e).t _ _ hpr) (at_ints (hlt _ hm)) (q _ (Evl.Ex.refl _))
    · walk_at "rd"
      have hm1 : SqL K H' D ((ps.map (UM.at0 r)).map V.int) := by
        rw [List.map_map]
        exact SqL.of h1
      refine ⟨D, _, rfl, .inl hm1, by simpa using hne, ?_⟩
      walk_at "rd"
      refine lcL_fil (zs := ps) (fun p => V.int (p : Int)) (fun p => decide (UM.at0 r p = UM.leastOf r ps)) (val_var rfl) ((ex_sb e).l _ _ hpl) (List.length_map _) (by rw [List.length_map]; omega) (fun _ => by rfl) (fun i x z hx hz H2 e2 R q => ?_) (fun i x z hx hz _ H2 e2 R q => ?_) (fun D2 H2 hD2 e2 h2 => ?_)
      · obtain ⟨k', hk, rfl, hm⟩ := vnats_get hx
        rw [hz] at hk
        cases hk
        walk_at "rd"
        refine r_ixT ((ex_sb (Evl.Ex.trans e e2)).t _ _ hpr) (at_ints (hlt _ hm)) ?_
        walk_at "rd"
        refine r_eqi (q _ (Evl.Ex.refl _))
      · obtain ⟨k', hk, rfl, hm⟩ := vnats_get hx
        rw [hz] at hk
        cases hk
        walk_at "rd"
        exact q _ (Evl.Ex.refl _)
      · walk_at "rd"
        have hf := UM.firstLeast_fil r hne
        refine r_ixL (SqL.of h2) (atI_nat (j := 0) ?_) (k _ (Evl.Ex.trans e e2))
        rw [List.getElem?_map, hf]
        rfl
end
end PU
/-! PMeth: the methods of Under. -/
namespace PU
open PySem PySem.Spec PyProof.Rows L2 Ts K96
local macro_rules | `(tactic| walk_at "rd1") => `(tactic| first
  | with_reducible refine r_seq ?_ | with_reducible refine r_ret ?_ | with_reducible refine r_asg ?_ | with_reducible refine r_drop ?_ | with_reducible refine r_ifS ?_ | with_reducible refine r_next ?_
  | (with_reducible refine r_varE ?_; refine ⟨_, rfl, ?_⟩) | with_reducible refine r_c ?_ | with_reducible refine r_op ?_ | with_reducible refine r_I0 ?_ | (with_reducible refine r_eq ?h1 ?_; (case h1 => exact rfl)) | (with_reducible refine r_ne ?h1 ?_; (case h1 => exact rfl))
  | with_reducible refine r_nil ?_ | with_reducible refine r_cons ?_ | with_reducible refine r_cb ?_ | with_reducible refine r_call ?_ | with_reducible refine r_test ?_ | with_reducible refine r_tB ?_ | with_reducible refine r_bll ?_ | with_reducible refine r_int ?_
  | with_reducible refine r_not ?_ | with_reducible refine r_and ?_ | with_reducible refine r_or ?_ | with_reducible refine r_if ?_ | with_reducible refine r_isa ?_ | with_reducible refine r_tup ?_ | with_reducible refine r_lst ?_
  | with_reducible refine r_for ?_ | with_reducible refine r_iTup ?_ | with_reducible refine r_iList ?_ | with_reducible refine r_rng1 ?_ | with_reducible refine r_rng2 ?_ | with_reducible refine r_zipA ?_ | with_reducible refine r_enT ?_ | with_reducible refine r_zipM ?_ | with_reducible refine r_bmG ?_ | with_reducible refine r_enL ?_ | with_reducible refine r_revA ?_
  | (with_reducible refine r_augE ?_; refine ⟨_, rfl, ?_⟩) | with_reducible refine r_ipI ?_ | with_reducible refine r_rAdd ?_ | with_reducible refine r_bm ?_ | with_reducible refine r_bm0 ?_ | with_reducible refine r_gn ?_ | with_reducible refine r_asgG ?_
  | with_reducible refine r_sl ?_ | with_reducible refine r_nop ?_ | with_reducible refine r_part ?_ | with_reducible refine r_chain ?_ | with_reducible refine r_un ?_ | with_reducible refine r_rU ?_ | with_reducible refine r_fldE ?_ | with_reducible refine r_sfld ?_ | with_reducible refine r_sfldaug ?_ | with_reducible refine r_lstRg ?_ | with_reducible refine r_rg1 ?_ | with_reducible refine r_dget ?_ | with_reducible refine r_dput ?_ | with_reducible refine r_disp ?_ | with_reducible refine r_gsub ?_ | with_reducible refine r_pairC ?_ | with_reducible refine r_pairN ?_ | with_reducible refine r_meth ?_ | with_reducible refine r_make ?_ | with_reducible refine iteT ?_ | with_reducible refine iteF ?_)
local macro_rules | `(tactic| walk_at "rd") => `(tactic| repeat walk_at "rd1")

def sp_Under_init (K : PySem.W.Frag) : Sp := fun vs H Q _ => ∃ a n toll dx, vs = [.ref a, .int ((n : Nat) : Int), .int toll] ∧ H a = some (.ins (He.ga K "Under") dx []) ∧ 1 ≤ n ∧ n ≤ 5 ∧ 1 ≤ toll ∧ toll ≤ 1000 ∧
  ∀ H' p, Kp [a] H H' → UnAt K H' a n toll (UM.st0 n) p → Q .non H'
def RowIs (n : Nat) (r : List Int) : Prop := r.length = n ∧ ∀ x ∈ r, 1 ≤ x ∧ x ≤ 1000000
def sp_Under_is_row (K : PySem.W.Frag) : Sp := fun vs H Q _ => ∃ a n toll s p pr r, vs = [.ref a, .ref pr] ∧ UnAt K H a n toll s p ∧ SqT K H pr (r.map V.int) ∧ RowIs n r ∧ n ≤ 5 ∧ ∀ H', Ex H H' → Q (.bl true) H'
/-- the state in which a row's costs have been added to the sums alone -/
def grew (s : UM.St) (r : List Int) : UM.St := { s with sums := UM.grown s r }
/-- and the sums have been set to nothing where a phase ends -/
def reset (toll : Int) (n : Nat) (s : UM.St) (r : List Int) : UM.St := if UM.ending toll n s r then { s with sums := List.replicate n 0, phases := s.phases + 1 } else grew s r
def sp_Under_chosen (K : PySem.W.Frag) : Sp := fun vs H Q _ => ∃ a n toll s p pr r, vs = [.ref a, .ref pr] ∧ UnAt K H a n toll (grew s r) p ∧ SqT K H pr (r.map V.int) ∧ RowIs n r ∧ n ≤ 5 ∧ UM.Ok toll n s ∧
  ∀ H' p', Kp [a] H H' → UnAt K H' a n toll (reset toll n s r) p' → Q (.int ((UM.nextKind toll n s r : Nat) : Int)) H'
def sp_Under_step (K : PySem.W.Frag) : Sp := fun vs H Q _ => ∃ a n toll s p pr r, vs = [.ref a, .ref pr] ∧ UnAt K H a n toll s p ∧ SqT K H pr (r.map V.int) ∧ RowIs n r ∧ n ≤ 5 ∧ UM.Ok toll n s ∧
  ∀ H' p', Kp [a] H H' → UnAt K H' a n toll (UM.step toll n s r) p' → Q (.int ((UM.nextKind toll n s r : Nat) : Int)) H'
theorem dpa_nats {K : PySem.W.Frag} {H : Hp} (ps : List Nat) : DpAll K H (vNats ps) (ps.map fun k : Nat => PyData.int (k : Int)) := by
  induction ps with
  | nil => exact .nil
  | cons k ps ih => exact .cons (.int _) ih
theorem shaped_nats (ps : List Nat) : SeqAt.shaped (.list (ps.map fun k : Nat => PyData.int (k : Int))) = true := by
  have z := shaped_ints (ps.map fun k : Nat => (k : Int))
  rw [dInts, List.map_map] at z
  exact z
theorem eqv_nilL (ds : List PyData) : PyData.eqv (.list ds) (.list []) = ds.isEmpty := by
  cases ds <;> simp [PyData.eqv, PyData.eqvAll]
theorem rg_nats (n : Nat) : rgV 0 (n : Int) = vNats (List.range n) := by
  unfold rgV
  rw [Int.sub_zero, Int.toNat_natCast]
  refine List.map_congr_left fun i _ => ?_
  rw [Int.zero_add]
theorem m_under {K : PySem.W.Frag} {H : Hp} {a p : Addr} {n : Nat} {toll : Int} {s : UM.St} (u : UnAt K H a n toll s p) {m : Str} {R : Prop} (hm : (UF n toll s.kind p s.paid s.phases).lookup m = none) (k : R) :
    ∃ a1 dx fs, V.ref a = .ref a1 ∧ H a1 = some (.ins (He.ga K "Under") dx fs) ∧ fs.lookup m = none ∧ R := by
  obtain ⟨dx, h⟩ := u.ob
  exact ⟨a, dx, _, rfl, h, hm, k⟩
theorem get_ints {c : List Int} {i : Nat} {v : V} (h : (c.map V.int)[i]? = some v) : v = .int (UM.at0 c i) ∧ i < c.length := by
  rw [List.getElem?_map] at h
  unfold UM.at0
  by_cases hi : i < c.length
  · rw [List.getElem?_eq_getElem hi] at h
    rw [List.getD_eq_getElem?_getD, List.getElem?_eq_getElem hi]
    exact ⟨(Option.some.inj h).symm, hi⟩
  · rw [List.getElem?_eq_none (by omega)] at h
    cases h
theorem get_range {n i z : Nat} (h : (List.range n)[i]? = some z) : z = i := by
  have hi := (List.getElem?_eq_some_iff.mp h).1
  rw [List.length_range] at hi
  rw [List.getElem?_range hi] at h
  exact (Option.some.inj h).symm
theorem grown_map {n : Nat} {s : UM.St} {r : List Int} (h1 : s.sums.length = n) (h2 : r.length = n) : UM.grown s r = (List.range n).map fun i => UM.at0 s.sums i + UM.at0 r i := by
  unfold UM.grown
  refine List.ext_getElem (by simp [h1, h2]) fun i hi1 hi2 => ?_
  have hi : i < n := by simpa using hi2
  rw [List.getElem_zipWith, List.getElem_map, List.getElem_range]
  unfold UM.at0
  rw [List.getD_eq_getElem?_getD, List.getD_eq_getElem?_getD, List.getElem?_eq_getElem (by omega), List.getElem?_eq_getElem (by omega)]
  rfl
theorem step_eq {toll : Int} {n : Nat} {s : UM.St} {r : List Int} : ({ { reset toll n s r with paid := (reset toll n s r).paid + (UM.at0 r (UM.nextKind toll n s r) + UM.turn toll s.kind (UM.nextKind toll n s r)) } with kind := UM.nextKind toll n s r } : UM.St) = UM.step toll n s r := by
  unfold UM.step reset
  cases h : UM.ending toll n s r <;> rfl
theorem r_ifV {σ : L2.St} {H : Hp} {ta tb : TE} {Q : VK} {c : Bool} {v : V} (h1 : c = true → Val ta σ H v) (h2 : c = false → Val tb σ H v) (k : Q v H) : if c = true then ta σ H Q else tb σ H Q := by
  cases c with
  | true => exact h1 rfl Q k
  | false => exact h2 rfl Q k
section
variable {P : Program} {w : World} {K : PySem.W.Frag} {mg : Str → Option Value} {base : Heap}
theorem sc_Under_init : FnScope ["self", "many", "toll"] ["self", "many", "toll"] (defScope sUnder_init) := ⟨rfl, rfl, rfl, by decide +kernel, rfl, by decide +kernel, by decide +kernel⟩
theorem ok_Under_init (T : Tx fa fn K mg) : GFn P w K mg base 4 (He.fAd K dUnder_init.at_) ["self", "many", "toll"] (sp_Under_init K) := by
  obtain ⟨fd, F⟩ := T.says.def_ 32 (d := dUnder_init) rfl
  refine ok0 F sc_Under_init (fun vs H Q E h => ?_) (fun _ _ _ _ _ _ us hl => match us, hl with | [_, _, _], _ => rfl) (fun cdv A outer s H vs Q E hr h => ?_)
  · obtain ⟨a, n, toll, dx, rfl, _⟩ := h
    rfl
  · obtain ⟨a, n, toll, dx, rfl, ha, n1, n5, t1, t2, k⟩ := h
    refine ⟨_, (pss_cons (ps_if (PW.pt (pw_or (pt_not (pt_val (gc (ok_is_whole_in T) (hr.mono (by decide)) (T.g 15) pn (pa_cons (pv 1) (pa_cons pe_int (pa_cons (pgi (T.i 40)) pa_nil)))))) (pw_or1 (pt_not (pt_val (gc (ok_is_toll T) (hr.mono (by decide)) (T.g 4) pn (pa_cons (pv 2) pa_nil))))))) (pss_one ps_never) pss_nil)
      (pss_cons (ps_fld (pv 0) (pv 1) rfl)
      (pss_cons (ps_fld (pv 0) (pv 2) rfl)
      (pss_cons (ps_fld (pv 0) pe_int rfl)
      (pss_cons (ps_fld (pv 0) (pe_op (mulT K) (pe_tup (pa_cons pe_int pa_nil)) (pv 1)) rfl)
      (pss_cons (ps_fld (pv 0) pe_int rfl)
      (pss_one (ps_fld (pv 0) pe_int rfl)))))))), ?_⟩
    walk_at "rd"
    refine ⟨_, _, _, _, rfl, .int _, ?_⟩
    rw [btw_top.mpr ⟨by omega, by omega⟩]
    refine ⟨_, rfl, iteF ?_⟩
    walk_at "rd"
    refine ⟨_, _, rfl, .int _, ?_⟩
    rw [btw_top.mpr ⟨t1, t2⟩]
    refine ⟨_, rfl, iteF ?_⟩
    walk_at "rd"
    have C := T.cls 45
    refine ⟨a, _, dx, _, rfl, ha, C, T.noat 47, by show 0 < 1000; decide, ?_⟩
    walk_at "rd"
    refine ⟨a, _, dx, _, rfl, upd_same, C, T.noat 48, by show 1 < 1000; decide, ?_⟩
    walk_at "rd"
    refine ⟨a, _, dx, _, rfl, upd_same, C, T.noat 49, by show 2 < 1000; decide, ?_⟩
    walk_at "rd"
    refine ⟨Nat.le_of_lt (small_line (by decide)), fun z hz => ?_⟩
    walk_at "rd"
    refine r_mul (SqT.of upd_same) n1 (by omega) fun q H2 e2 hq => ?_
    have h2 := e2 _ _ ((ex_new (o := .tup [V.int 0]) hz) _ _ upd_same)
    walk_at "rd"
    refine ⟨a, _, dx, _, rfl, h2, C, T.noat 50, by show 3 < 1000; decide, ?_⟩
    walk_at "rd"
    refine ⟨a, _, dx, _, rfl, upd_same, C, T.noat 51, by show 4 < 1000; decide, ?_⟩
    walk_at "rd"
    refine ⟨a, _, dx, _, rfl, upd_same, C, T.noat 52, by show 5 < 1000; decide, ?_⟩
    walk_at "rd"
    have m1 : a ∈ [a] := List.mem_singleton.mpr rfl
    refine k _ q ?_ ⟨⟨dx, upd_same⟩, ?_⟩
    · exact (((((((Kp.set m1).setT m1).setT m1).newT hz).trans (Kp.ex e2)).setT m1).setT m1).setT m1
    · show SqT K _ q ((List.replicate n (0 : Int)).map V.int)
      rw [List.map_replicate]
      refine Sb.t (H := H2) ?_ _ _ hq
      exact Kp.sb1 (((Kp.set m1).setT m1).setT m1) h2 rfl
theorem sc_Under_is_row : FnScope ["self", "row", "number"] ["self", "row"] (defScope sUnder_is_row) := ⟨rfl, rfl, rfl, by decide +kernel, rfl, by decide +kernel, by decide +kernel⟩
theorem ok_Under_is_row (T : Tx fa fn K mg) : GFn P w K mg base 3 (He.fAd K dUnder_is_row.at_) ["self", "row"] (sp_Under_is_row K) := by
  obtain ⟨fd, F⟩ := T.says.def_ 33 (d := dUnder_is_row) rfl
  refine ok0 F sc_Under_is_row (fun vs H Q E h => ?_) (fun _ _ _ _ _ _ us hl => match us, hl with | [_, _], _ => rfl) (fun cdv A outer s H vs Q E hr h => ?_)
  · obtain ⟨a, n, toll, s, p, pr, r, rfl, _⟩ := h
    rfl
  · obtain ⟨a, n, toll, s, p, pr, r, rfl, u, hpr, ⟨hl, hx⟩, n5, k⟩ := h
    refine ⟨_, (pss_cons (ps_if (PW.pt (pw_or (pt_not (pt_val (isaK2 K (pe_isa isa_tuple (T.b 62) (T.b 73) (by decide +kernel) (pv 1))))) (pw_or1 (pt_cmpR op_ne (pe_callB (cLen K) (by rfl) (T.b 63) (by decide +kernel) (pa_cons (pv 1) pa_nil)) (fldK K (pv 0) rfl) (nomark _))))) (pss_one (ps_ret pe_bl)) pss_nil)
      (pss_one (ps_ret (pe_callB (cAll K rfl) (by rfl) (T.b 58) (by decide +kernel) (pa_cons (pe_lc (own := [("number", 2)]) (g := gName 2) (tt := tYes) rfl sc_Under_is_row.nd (piT K (pv 1)) (blkOk_by (N := ["self", "row", "number"]) (sc := defScope sUnder_is_row) (by decide +kernel)) (fun _ _ _ _ _ => pg_name (i := 2) sc_Under_is_row.nd rfl (Or.inl rfl)) (fun _ _ _ _ _ => pts_nil) (fun _ _ _ _ _ => (gc (ok_is_whole_in T) (hr.mono (by decide)) (T.g 15) pn (pa_cons (pv 2) (pa_cons pe_int (pa_cons (pgi (T.i 41)) pa_nil)))))) pa_nil))))), ?_⟩
    walk_at "rd"
    refine ⟨_, dp_of_ints hpr, ?_⟩
    refine ⟨_, rfl, iteF ?_⟩
    walk_at "rd"
    refine ⟨pr, _, rfl, .inr hpr, ?_⟩
    walk_at "rd"
    refine f_many T u ?_
    refine r_nei ?_
    rw [List.length_map, hl, decide_eq_true rfl]
    refine iteF ?_
    walk_at "rd"
    refine lcT_map (zs := r) (fun x => V.bl (btw 1 1000000 (.int x))) (val_var rfl) hpr (List.length_map _) (by rw [List.length_map]; omega) (fun _ => by rfl) (fun i x d hx hd H2 e2 R q => ?_) fun D H' hD e1 hl1 => ?_
    · rw [List.getElem?_map, hd] at hx
      cases hx
      walk_at "rd"
      exact ⟨_, _, _, _, rfl, .int _, q _ (Evl.Ex.refl _)⟩
    · walk_at "rd"
      refine ⟨D, r.map fun x => btw 1 1000000 (.int x), rfl, by rw [List.map_map]; exact SqL.of hl1, ?_⟩
      have z : (r.map fun x => btw 1 1000000 (.int x)).all id = true := by
        rw [List.all_map, List.all_eq_true]
        exact fun x m => btw_top.mpr (hx x m)
      rw [z]
      exact k H' e1
theorem sc_Under_chosen : FnScope ["self", "row", "low", "kind"] ["self", "row"] (defScope sUnder_chosen) := ⟨rfl, rfl, rfl, by decide +kernel, rfl, by decide +kernel, by decide +kernel⟩
theorem ok_Under_chosen (T : Tx fa fn K mg) : GFn P w K mg base 2 (He.fAd K dUnder_chosen.at_) ["self", "row"] (sp_Under_chosen K) := by
  obtain ⟨fd, F⟩ := T.says.def_ 34 (d := dUnder_chosen) rfl
  refine ok0 F sc_Under_chosen (fun vs H Q E h => ?_) (fun _ _ _ _ _ _ us hl => match us, hl with | [_, _], _ => rfl) (fun cdv A outer s H vs Q E hr h => ?_)
  · obtain ⟨a, n, toll, s, p, pr, r, rfl, _⟩ := h
    rfl
  · obtain ⟨a, n, toll, s, p, pr, r, rfl, u, hpr, ⟨hl, hx⟩, n5, o, k⟩ := h
    refine ⟨_, (pss_cons (ps_if (pt_cmpR op_lt (pe_ix (ixT K) (fldK K (pv 0) rfl) (fldK K (pv 0) rfl) (fun _ _ => rfl)) (fldK K (pv 0) rfl) (nomark _)) (pss_one (ps_ret (fldK K (pv 0) rfl))) pss_nil)
      (pss_cons (ps_setLc (i := 2) (own := [("kind", 3)]) (g := gName 3) rfl sc_Under_chosen.nd rfl rfl (sw_true rfl rfl rfl (by decide +kernel)) (pi_range1 rfl (T.b 67) (pa_cons (fldK K (pv 0) rfl) pa_nil)) (blkOk_by (N := ["self", "row", "low", "kind"]) (sc := defScope sUnder_chosen) (by decide +kernel)) (fun _ _ _ _ _ => pg_name (i := 3) sc_Under_chosen.nd rfl (Or.inl rfl)) (fun _ _ _ _ _ => pts_one (pt_cmpR op_lt (pe_ix (ixT K) (fldK K (pv 0) rfl) (pv 3) (fun _ _ => rfl)) (fldK K (pv 0) rfl) (nomark _))) (fun _ _ _ _ _ => (pv 3)))
      (pss_cons (ps_if (pt_cmpR (neK K hr.rm.units) (pv 2) (pe_lst pa_nil) (nomark _)) (pss_one (ps_ret (gc (ok_first_least T) (hr.mono (by decide)) (T.g 16) pn (pa_cons (fldK K (pv 0) rfl) (pa_cons (pv 2) pa_nil))))) pss_nil)
      (pss_cons (ps_fld (pv 0) (pe_op (mulT K) (pe_tup (pa_cons pe_int pa_nil)) (fldK K (pv 0) rfl)) rfl)
      (pss_cons (ps_fldaug (pv 0) pe_int in_add)
      (pss_cons (ps_if (pt_cmpR op_eq (pe_ix (ixT K) (pv 1) (fldK K (pv 0) rfl) (fun _ _ => rfl)) (pe_callB (cMin K rfl) (by rfl) (T.b 66) (by decide +kernel) (pa_cons (pv 1) pa_nil)) (nomark _)) (pss_one (ps_ret (fldK K (pv 0) rfl))) pss_nil)
      (pss_one (ps_ret (gc (ok_first_least T) (hr.mono (by decide)) (T.g 16) pn (pa_cons (pv 1) (pa_cons (pe_listRg rfl (by rfl) (T.b 64) (prg_1 (by rfl) (T.b 67) (fldK K (pv 0) rfl))) pa_nil))))))))))), ?_⟩
    walk_at "rd"
    refine f_sums T u ?_
    walk_at "rd"
    refine f_kind T u ?_
    have hk := o.k
    have hg : (UM.grown s r).length = n := by
      unfold UM.grown
      rw [List.length_zipWith, o.l, hl]
      omega
    refine r_ixT u.sm (at_ints (by show s.kind < (UM.grown s r).length; omega)) ?_
    walk_at "rd"
    refine f_toll T u ?_
    walk_at "rd"
    have hz : UM.nextKind toll n s r = (if UM.at0 (UM.grown s r) s.kind < toll then s.kind
      else if (UM.low toll n (UM.grown s r)).isEmpty then (if UM.at0 r s.kind = lmin r then s.kind else UM.firstLeast r (List.range n))
      else UM.firstLeast (UM.grown s r) (UM.low toll n (UM.grown s r))) := rfl
    refine ifB (fun e1 => ?_) (fun e1 => ?_)
    · walk_at "rd"
      have e1' : UM.at0 (UM.grown s r) s.kind < toll := of_decide_eq_true e1
      rw [if_pos e1'] at hz
      refine f_kind T u ?_
      have z : reset toll n s r = grew s r := by
        unfold reset UM.ending
        rw [decide_eq_false (fun q => q e1')]
        rfl
      have q := k H p (Kp.refl H) (by rw [z]; exact u)
      rw [hz] at q
      exact q
    · have e1' : ¬ UM.at0 (UM.grown s r) s.kind < toll := of_decide_eq_false e1
      rw [if_neg e1'] at hz
      have hend : UM.ending toll n s r = (UM.low toll n (UM.grown s r)).isEmpty := by
        unfold UM.ending
        rw [decide_eq_true e1', Bool.true_and]
      walk_at "rd"
      refine lcR_fil (n := n) (fun k => V.int (k : Int)) (fun k => decide (UM.at0 (UM.grown s r) k < toll)) (by omega) (fun R q => ?_) (fun _ => by rfl) (fun i hi H' e R q => ?_) (fun i hi _ H' e R q => ?_) (fun D H' hD e h1 => ?_)
      · walk_at "rd"
        exact f_many T u q
      · walk_at "rd"
        refine f_sums T (u.ex e) ?_
        walk_at "rd"
        refine r_ixT (u.ex e).sm (at_ints (by show i < (UM.grown s r).length; omega)) ?_
        walk_at "rd"
        refine f_toll T (u.ex e) ?_
        walk_at "rd"
        exact q _ (Evl.Ex.refl _)
      · walk_at "rd"
        exact q _ (Evl.Ex.refl _)
      have h2 : H' D = some (.lst (vNats (UM.low toll n (UM.grown s r)))) := h1
      walk_at "rd"
      refine ⟨Nat.zero_le _, fun z hz0 => ?_⟩
      have e2 := ex_new (o := .lst []) hz0
      refine ⟨_, _, .lst ((ex_sb e2).l _ _ (SqL.of h2)) (dpa_nats _), .lst (SqL.of upd_same) .nil, shaped_nats _, rfl, _, rfl, ?_⟩
      rw [eqv_nilL]
      have u2 := u.ex (Evl.Ex.trans e e2)
      refine ifB (fun e3 => ?_) (fun e3 => ?_)
      · have e4 : (UM.low toll n (UM.grown s r)).isEmpty = false := by simpa using e3
        rw [e4] at hz hend
        walk_at "rd"
        refine f_sums T u2 ?_
        walk_at "rd"
        refine ⟨_, _, _, _, rfl, u2.sm, (ex_sb e2).l _ _ (SqL.of h2), fun q hq => ?_, fun q => ?_, ?_, fun H3 e5 => ?_⟩
        · show q < (UM.grown s r).length
          rw [hg]
          exact (UM.mem_low.mp hq).1
        · rw [q] at e4
          cases e4
        · refine Nat.le_trans (List.length_filter_le _ _) ?_
          rw [List.length_range]
          omega
        · have z : reset toll n s r = grew s r := by
            unfold reset
            rw [hend]
            rfl
          have q := k H3 p (Kp.ex (Evl.Ex.trans (Evl.Ex.trans e e2) e5)) (by rw [z]; exact u2.ex e5)
          rw [hz] at q
          exact q
      · have e4 : (UM.low toll n (UM.grown s r)).isEmpty = true := by simpa using e3
        rw [e4] at hz hend
        walk_at "rd"
        refine ⟨Nat.le_of_lt (small_line (by show 1 ≤ 1000000; decide)), fun z2 hz2 => ?_⟩
        have e5 := ex_new (o := .tup [V.int 0]) hz2
        walk_at "rd"
        refine f_many T (u2.ex e5) ?_
        refine r_mul (SqT.of upd_same) (by omega) (by omega) fun q H3 e6 hq => ?_
        have u3 := (u2.ex e5).ex e6
        walk_at "rd"
        refine g_sums T u3 (sm := List.replicate n 0) (by rw [List.map_replicate]; exact hq) fun H4 k4 u4 => ?_
        walk_at "rd"
        refine o_phases T u4 ?_
        walk_at "rd"
        refine a_phases (ph := s.phases + 1) u4 fun H5 k5 u5 => ?_
        have kall : Kp [a] H H5 := ((Kp.ex (Evl.Ex.trans (Evl.Ex.trans (Evl.Ex.trans e e2) e5) e6)).trans k4).trans k5
        have p5 := (u.sb kall).t _ _ hpr
        have hr5 : reset toll n s r = { s with sums := List.replicate n 0, phases := s.phases + 1 } := by
          unfold reset
          rw [hend]
          rfl
        walk_at "rd"
        refine f_kind T u5 ?_
        refine r_ixT p5 (at_ints (by show s.kind < r.length; omega)) ?_
        walk_at "rd"
        have hrne : r ≠ [] := fun z => by
          rw [z] at hl
          have : (0 : Nat) = n := hl
          omega
        refine ⟨pr, r, rfl, .inr p5, hrne, ?_⟩
        refine r_eqi ?_
        refine ifB (fun e7 => ?_) (fun e7 => ?_)
        · have e8 : UM.at0 r s.kind = lmin r := of_decide_eq_true e7
          rw [if_pos rfl, if_pos e8] at hz
          walk_at "rd"
          refine f_kind T u5 ?_
          have q := k H5 q kall (by rw [hr5]; exact u5)
          rw [hz] at q
          exact q
        · have e8 : ¬ UM.at0 r s.kind = lmin r := of_decide_eq_false e7
          rw [if_pos rfl, if_neg e8] at hz
          walk_at "rd"
          refine f_many T u5 ?_
          refine ⟨_, rfl, RgOk.of_le (by omega) (by omega) (by omega) (by omega), fun l hl0 => ?_⟩
          walk_at "rd"
          have e9 := ex_new (o := .lst (rgV 0 (n : Int))) hl0
          refine ⟨_, _, _, List.range n, rfl, (ex_sb e9).t _ _ p5, SqL.of (by rw [upd_same, rg_nats]), fun q hq => ?_, ?_, ?_, fun H6 e10 => ?_⟩
          · rw [hl]
            exact List.mem_range.mp hq
          · simp only [ne_eq, List.range_eq_nil]
            omega
          · rw [List.length_range]
            omega
          · have q := k H6 q (kall.trans (Kp.ex (Evl.Ex.trans e9 e10))) (by rw [hr5]; exact (u5.ex e9).ex e10)
            rw [hz] at q
            exact q
theorem sc_Under_step : FnScope ["self", "row", "one", "other", "kind"] ["self", "row"] (defScope sUnder_step) := ⟨rfl, rfl, rfl, by decide +kernel, rfl, by decide +kernel, by decide +kernel⟩
theorem ok_Under_step (T : Tx fa fn K mg) : GFn P w K mg base 4 (He.fAd K dUnder_step.at_) ["self", "row"] (sp_Under_step K) := by
  obtain ⟨fd, F⟩ := T.says.def_ 35 (d := dUnder_step) rfl
  refine ok0 F sc_Under_step (fun vs H Q E h => ?_) (fun _ _ _ _ _ _ us hl => match us, hl with | [_, _], _ => rfl) (fun cdv A outer s H vs Q E hr h => ?_)
  · obtain ⟨a, n, toll, s, p, pr, r, rfl, _⟩ := h
    rfl
  · obtain ⟨a, n, toll, s, p, pr, r, rfl, u, hpr, hri, n5, o, k⟩ := h
    have hl := hri.1
    refine ⟨_, (pss_cons (ps_if (pt_not (pt_val (gm (ok_Under_is_row T) (hr.mono (by decide)) (T.cls 45) (T.meth 53) pn (pv 0) (pa_cons (pv 1) pa_nil)))) (pss_one ps_never) pss_nil)
      (pss_cons (ps_fld (pv 0) (pe_callTy (cTup K) (by rfl) (T.b 73) (by decide +kernel) (pa_cons (pe_lc (own := [("one", 2), ("other", 3)]) (tt := tYes) rfl sc_Under_step.nd (RZ.pi_zipA rfl (T.b 74) (pa_cons (fldK K (pv 0) rfl) (pa_cons (pv 1) pa_nil))) (blkOk_by (N := ["self", "row", "one", "other", "kind"]) (sc := defScope sUnder_step) (by decide +kernel)) (fun _ _ _ _ _ => (gtupK K (n := 2) rfl (pgs_cons (pg_name (i := 2) sc_Under_step.nd rfl (Or.inl rfl)) (pgs_cons (pg_name (i := 3) sc_Under_step.nd rfl (Or.inl rfl)) pgs_nil)))) (fun _ _ _ _ _ => pts_nil) (fun _ _ _ _ _ => (pe_op op_add (pv 2) (pv 3)))) pa_nil)) rfl)
      (pss_cons (ps_set (i := 4) sc_Under_step.nd rfl (Or.inl rfl) (gm (ok_Under_chosen T) (hr.mono (by decide)) (T.cls 45) (T.meth 54) pn (pv 0) (pa_cons (pv 1) pa_nil)))
      (pss_cons (ps_fldaug (pv 0) (pe_op op_add (pe_ix (ixT K) (pv 1) (pv 4) (fun _ _ => rfl)) (pe_ifExp (pt_cmpR op_eq (pv 4) (fldK K (pv 0) rfl) (nomark _)) pe_int (fldK K (pv 0) rfl))) in_add)
      (pss_cons (ps_fld (pv 0) (pv 4) rfl)
      (pss_one (ps_ret (pv 4)))))))), ?_⟩
    walk_at "rd"
    refine m_under u (by rfl) ?_
    walk_at "rd"
    refine ⟨a, n, toll, s, p, pr, r, rfl, u, hpr, hri, n5, fun H1 e1 => ⟨_, rfl, iteF ?_⟩⟩
    have u1 := u.ex e1
    have p1 := (ex_sb e1).t _ _ hpr
    walk_at "rd"
    refine lcZ_map (zs := List.range n) (fun i => V.int (UM.at0 s.sums i + UM.at0 r i)) (fun R q => ?_) u1.sm p1 (by rw [List.length_map, List.length_map, o.l, hl]) (by rw [List.length_map, List.length_range, o.l]) (by rw [List.length_map, o.l]; omega) (fun _ _ => by rfl) (fun i x y z hx hy hz H' e R q => ?_) (fun D H' hD e h1 => ?_)
    · walk_at "rd"
      refine f_sums T u1 ?_
      walk_at "rd"
      exact q
    · obtain ⟨rfl, hi1⟩ := get_ints hx
      obtain ⟨rfl, hi2⟩ := get_ints hy
      obtain rfl := get_range hz
      walk_at "rd"
      exact q _ (Evl.Ex.refl _)
    · walk_at "rd"
      refine ⟨D, _, rfl, .inl ⟨SqL.of h1, fun t ht => ?_⟩⟩
      have e2 := ex_newT (o := .tup ((List.range n).map fun i => V.int (UM.at0 s.sums i + UM.at0 r i))) e ht
      have u2 := u1.ex e2
      walk_at "rd"
      refine g_sums T u2 (sm := UM.grown s r) (SqT.of (by rw [upd_same, grown_map o.l hl, List.map_map]; rfl)) fun H3 k3 u3 => ?_
      have k13 : Kp [a] H H3 := (Kp.ex (Evl.Ex.trans e1 e2)).trans k3
      walk_at "rd"
      refine m_under u3 (by rfl) ?_
      walk_at "rd"
      refine ⟨a, n, toll, s, t, pr, r, rfl, u3, (u.sb k13).t _ _ hpr, hri, n5, o, fun H4 p4 k4 u4 => ?_⟩
      have k14 := k13.trans k4
      have hrk : (reset toll n s r).kind = s.kind := by
        unfold reset
        split <;> rfl
      have hnk := UM.nextKind_lt (r := r) o
      walk_at "rd"
      refine o_paid T u4 ?_
      walk_at "rd"
      refine r_ixT ((u.sb k14).t _ _ hpr) (at_ints (by rw [hl]; exact hnk)) ?_
      walk_at "rd"
      refine f_kind T u4 ?_
      rw [hrk]
      refine r_eqi ?_
      refine r_ifV (v := .int (UM.turn toll s.kind (UM.nextKind toll n s r))) (fun c => ?_) (fun c R q => ?_) ?_
      · have z : s.kind = UM.nextKind toll n s r := by
          have := of_decide_eq_true c
          omega
        have z2 : UM.turn toll s.kind (UM.nextKind toll n s r) = 0 := if_pos z
        rw [z2]
        exact fun R q => q
      · have z : ¬ s.kind = UM.nextKind toll n s r := by
          have := of_decide_eq_false c
          omega
        have z2 : UM.turn toll s.kind (UM.nextKind toll n s r) = toll := if_neg z
        rw [z2] at q
        walk_at "rd"
        exact f_toll T u4 q
      walk_at "rd"
      refine a_paid u4 fun H5 k5 u5 => ?_
      walk_at "rd"
      refine g_kind T u5 (kd := UM.nextKind toll n s r) fun H6 k6 u6 => ?_
      walk_at "rd"
      refine k H6 p4 ((k14.trans k5).trans k6) ?_
      rw [← step_eq]
      exact u6
end
end PU
/-! PRun: under, phases_cost. -/
namespace PU
open PySem PySem.Spec PyProof.Rows L2 Ts K96
local macro_rules | `(tactic| walk_at "rd1") => `(tactic| first
  | with_reducible refine r_seq ?_ | with_reducible refine r_ret ?_ | with_reducible refine r_asg ?_ | with_reducible refine r_drop ?_ | with_reducible refine r_ifS ?_ | with_reducible refine r_next ?_
  | (with_reducible refine r_varE ?_; refine ⟨_, rfl, ?_⟩) | with_reducible refine r_c ?_ | with_reducible refine r_op ?_ | with_reducible refine r_I0 ?_ | (with_reducible refine r_eq ?h1 ?_; (case h1 => exact rfl)) | (with_reducible refine r_ne ?h1 ?_; (case h1 => exact rfl))
  | with_reducible refine r_nil ?_ | with_reducible refine r_cons ?_ | with_reducible refine r_cb ?_ | with_reducible refine r_call ?_ | with_reducible refine r_test ?_ | with_reducible refine r_tB ?_ | with_reducible refine r_bll ?_ | with_reducible refine r_int ?_
  | with_reducible refine r_not ?_ | with_reducible refine r_and ?_ | with_reducible refine r_or ?_ | with_reducible refine r_if ?_ | with_reducible refine r_isa ?_ | with_reducible refine r_tup ?_ | with_reducible refine r_lst ?_
  | with_reducible refine r_for ?_ | with_reducible refine r_iTup ?_ | with_reducible refine r_iList ?_ | with_reducible refine r_rng1 ?_ | with_reducible refine r_rng2 ?_ | with_reducible refine r_zipA ?_ | with_reducible refine r_enT ?_ | with_reducible refine r_zipM ?_ | with_reducible refine r_bmG ?_ | with_reducible refine r_enL ?_ | with_reducible refine r_revA ?_
  | (with_reducible refine r_augE ?_; refine ⟨_, rfl, ?_⟩) | with_reducible refine r_ipI ?_ | with_reducible refine r_rAdd ?_ | with_reducible refine r_bm ?_ | with_reducible refine r_bm0 ?_ | with_reducible refine r_gn ?_ | with_reducible refine r_asgG ?_
  | with_reducible refine r_sl ?_ | with_reducible refine r_nop ?_ | with_reducible refine r_part ?_ | with_reducible refine r_chain ?_ | with_reducible refine r_un ?_ | with_reducible refine r_rU ?_ | with_reducible refine r_fldE ?_ | with_reducible refine r_sfld ?_ | with_reducible refine r_sfldaug ?_ | with_reducible refine r_lstRg ?_ | with_reducible refine r_rg1 ?_ | with_reducible refine r_dget ?_ | with_reducible refine r_dput ?_ | with_reducible refine r_disp ?_ | with_reducible refine r_gsub ?_ | with_reducible refine r_pairC ?_ | with_reducible refine r_pairN ?_ | with_reducible refine r_meth ?_ | with_reducible refine r_make ?_ | with_reducible refine iteT ?_ | with_reducible refine iteF ?_)
local macro_rules | `(tactic| walk_at "rd") => `(tactic| repeat walk_at "rd1")

def chs (toll : Int) (n : Nat) (rows : List (List Int)) (i : Nat) : List Nat := (List.range i).map fun p => (UM.S toll n rows (p + 1)).kind
def eds (toll : Int) (n : Nat) (rows : List (List Int)) (i : Nat) : List Nat := (List.range i).filter (UM.ended toll n rows)
theorem chs_succ {toll : Int} {n : Nat} {rows : List (List Int)} {i : Nat} : chs toll n rows (i + 1) = chs toll n rows i ++ [(UM.S toll n rows (i + 1)).kind] := by
  unfold chs
  rw [List.range_succ, List.map_append]
  rfl
theorem eds_succ {toll : Int} {n : Nat} {rows : List (List Int)} {i : Nat} : eds toll n rows (i + 1) = eds toll n rows i ++ (if UM.ended toll n rows i = true then [i] else []) := by
  unfold eds
  rw [List.range_succ, List.filter_append]
  congr 1
  cases h : UM.ended toll n rows i <;> simp [h]
theorem chs_len {toll : Int} {n : Nat} {rows : List (List Int)} {i : Nat} : (chs toll n rows i).length = i := by
  unfold chs
  rw [List.length_map, List.length_range]
theorem eds_len {toll : Int} {n : Nat} {rows : List (List Int)} {i : Nat} : (eds toll n rows i).length ≤ i := by
  unfold eds
  have := List.length_filter_le (UM.ended toll n rows) (List.range i)
  rw [List.length_range] at this
  exact this
theorem chsV {toll : Int} {n : Nat} {rows : List (List Int)} {i : Nat} : vNats (chs toll n rows (i + 1)) = vNats (chs toll n rows i) ++ [V.int ((UM.nextKind toll n (UM.S toll n rows i) (UM.row rows i) : Nat) : Int)] := by
  rw [chs_succ]
  show List.map _ (_ ++ _) = _
  rw [List.map_append]
  rfl
theorem row_mem {rows : List (List Int)} {i : Nat} (h : i < rows.length) : UM.row rows i ∈ rows := by
  unfold UM.row
  rw [List.getD_eq_getElem?_getD, List.getElem?_eq_getElem h]
  exact List.getElem_mem h
def sp_under (K : PySem.W.Frag) : Sp := fun vs H Q _ => ∃ x toll n rows, vs = [x, .int toll] ∧ Dp K H x (dCosts rows) ∧ Okc toll n rows ∧
  ∀ t pc pe H', Ex H H' → H' t = some (.tup [.ref pc, .int (UM.S toll n rows rows.length).paid, .ref pe]) → SqT K H' pc (vNats (chs toll n rows rows.length)) → SqT K H' pe (vNats (eds toll n rows rows.length)) → Q (.ref t) H'
theorem UnAt.lst {K : PySem.W.Frag} {H : Hp} {a p L : Addr} {n : Nat} {toll : Int} {s : UM.St} {xs ys : List V} (u : UnAt K H a n toll s p) (hL : H L = some (.lst xs)) : UnAt K (upd H L (.lst ys)) a n toll s p := by
  obtain ⟨dx, h⟩ := u.ob
  have hne : a ≠ L := fun e => by
    rw [e, hL] at h
    cases h
  exact ⟨⟨dx, by rw [upd_ne hne]; exact h⟩, sqt_kp kp_self hL u.sm⟩
theorem UnAt.keep {K : PySem.W.Frag} {H H' : Hp} {a p L : Addr} {n : Nat} {toll : Int} {s : UM.St} {xs : List V} (u : UnAt K H a n toll s p) (k : Kp [a] H H') (hL : H L = some (.lst xs)) : H' L = some (.lst xs) := by
  obtain ⟨dx, h⟩ := u.ob
  refine k L _ hL fun m => ?_
  rw [List.mem_singleton.mp m, h] at hL
  cases hL
theorem ex_kp {H H1 H2 : Hp} {a : Addr} (e : Ex H H1) (h : H a = none) (k : Kp [a] H1 H2) : Ex H H2 := fun b o hb => k b o (e b o hb) fun m => by
  rw [List.mem_singleton.mp m, h] at hb
  cases hb
/-- strictly rising ints with the same members are the same -/
theorem rising_eq : ∀ {xs ys : List Int}, xs.Pairwise (· < ·) → ys.Pairwise (· < ·) → (∀ k, k ∈ xs ↔ k ∈ ys) → xs = ys
  | [], [], _, _, _ => rfl
  | [], y :: ys, _, _, h => absurd ((h y).mpr List.mem_cons_self) (by simp)
  | x :: xs, [], _, _, h => absurd ((h x).mp List.mem_cons_self) (by simp)
  | x :: xs, y :: ys, hx, hy, h => by
    have hx' := List.pairwise_cons.mp hx
    have hy' := List.pairwise_cons.mp hy
    have e : x = y := by
      rcases List.mem_cons.mp ((h x).mp List.mem_cons_self) with q | q
      · exact q
      · rcases List.mem_cons.mp ((h y).mpr List.mem_cons_self) with q2 | q2
        · exact q2.symm
        · have := hy'.1 x q
          have := hx'.1 y q2
          omega
    subst e
    rw [rising_eq hx'.2 hy'.2 fun k => ?_]
    constructor
    · intro hk
      rcases List.mem_cons.mp ((h k).mp (List.mem_cons_of_mem _ hk)) with q | q
      · have := hx'.1 k hk
        omega
      · exact q
    · intro hk
      rcases List.mem_cons.mp ((h k).mpr (List.mem_cons_of_mem _ hk)) with q | q
      · have := hy'.1 k hk
        omega
      · exact q
def Rising (es : List Nat) (m : Nat) : Prop := es.Pairwise (· < ·) ∧ ∀ e ∈ es, e < m
def zInts (es : List Nat) : List Int := es.map fun k : Nat => (k : Int)
theorem rise_ints {es : List Nat} (h : es.Pairwise (· < ·)) : (zInts es).Pairwise (· < ·) := by
  unfold zInts
  rw [List.pairwise_map]
  exact h.imp fun q => by omega
theorem vnats_ints (es : List Nat) : vNats es = (zInts es).map V.int := by
  unfold zInts
  rw [List.map_map]
  rfl
theorem shaped_lints (ns : List Int) : SeqAt.shaped (.list (ns.map PyData.int)) = true := shaped_ints ns
def costIs (toll : Int) (rows : List (List Int)) (es : List Nat) : Int := (es.map fun e => UM.biggest toll (lmin (UM.row rows e))).sum
def sp_phases_cost (K : PySem.W.Frag) : Sp := fun vs H Q _ => ∃ x toll n rows pe es, vs = [x, .int toll, .ref pe] ∧ Dp K H x (dCosts rows) ∧ Okc toll n rows ∧ SqT K H pe (vNats es) ∧ Rising es rows.length ∧ es.length ≤ 1000 ∧
  ∀ H', Ex H H' → Q (.int (costIs toll rows es)) H'
section
variable {P : Program} {w : World} {K : PySem.W.Frag} {mg : Str → Option Value} {base : Heap}
theorem sc_under : FnScope ["costs", "toll", "chooser", "choice", "ends", "place", "row", "ahead"] ["costs", "toll"] (defScope sunder) := ⟨rfl, rfl, rfl, by decide +kernel, rfl, by decide +kernel, by decide +kernel⟩
theorem ok_under (T : Tx fa fn K mg) : GFn P w K mg base 6 (He.fAd K dunder.at_) ["costs", "toll"] (sp_under K) := by
  obtain ⟨fd, F⟩ := T.says.def_ 17 (d := dunder) rfl
  refine ok0 F sc_under (fun vs H Q E h => ?_) (fun _ _ _ _ _ _ us hl => match us, hl with | [_, _], _ => rfl) (fun cdv A outer s H vs Q E hr h => ?_)
  · obtain ⟨x, toll, n, rows, rfl, _⟩ := h
    rfl
  · obtain ⟨x, toll, n, rows, rfl, hd, o, k⟩ := h
    have n1 := o.g.n1
    have n5 := o.n2
    have hm := o.m
    obtain ⟨c, xs, ca⟩ := cost_at hd
    have ev := ca.ev
    subst ev
    refine ⟨_, (pss_cons (ps_if (PW.pt (pw_or (pt_not (pt_val (gc (ok_is_costs T) (hr.mono (by decide)) (T.g 3) pn (pa_cons (pv 0) pa_nil)))) (pw_or1 (pt_not (pt_val (gc (ok_is_toll T) (hr.mono (by decide)) (T.g 4) pn (pa_cons (pv 1) pa_nil))))))) (pss_one ps_never) pss_nil)
      (pss_cons (ps_set (i := 2) sc_under.nd rfl (Or.inl rfl) (gk (T.mkr 46) (ok_Under_init T) (hr.mono (by decide)) (T.g 35) pn (pa_cons (pe_ifExp (pt_cmpR (eqK K hr.rm.units) (pv 0) (pe_tup pa_nil) (nomark _)) pe_int (pe_callB (cLen K) (by rfl) (T.b 63) (by decide +kernel) (pa_cons (pe_ix (ixT K) (pv 0) pe_int (fun _ _ => rfl)) pa_nil))) (pa_cons (pv 1) pa_nil))))
      (pss_cons (ps_set (i := 3) sc_under.nd rfl (Or.inl rfl) (pe_lst pa_nil))
      (pss_cons (ps_set (i := 4) sc_under.nd rfl (Or.inl rfl) (pe_lst pa_nil))
      (pss_cons (ps_for (by first | exact PassesOwn.never | exact passes_of rfl) rfl (pi_enumT rfl (T.b 60) (pa_cons (pv 0) pa_nil)) (gtupK K (n := 2) rfl (pgs_cons (pg_name (i := 5) sc_under.nd rfl (Or.inl rfl)) (pgs_cons (pg_name (i := 6) sc_under.nd rfl (Or.inl rfl)) pgs_nil))) (pss_cons (ps_set (i := 7) sc_under.nd rfl (Or.inl rfl) (fldK K (pv 2) rfl))
      (pss_cons (ps_expr (bmK K (pe_bm PySem.F.plainAttrs_list PySem.F.slot_list_append PySem.F.type_list_append mt_append (pv 3) (pa_cons (gm (ok_Under_step T) (hr.mono (by decide)) (T.cls 45) (T.meth 55) pn (pv 2) (pa_cons (pv 6) pa_nil)) pa_nil))))
      (pss_one (ps_if (pt_cmpR op_gt (fldK K (pv 2) rfl) (pv 7) (nomark _)) (pss_one (ps_expr (bmK K (pe_bm PySem.F.plainAttrs_list PySem.F.slot_list_append PySem.F.type_list_append mt_append (pv 4) (pa_cons (pv 5) pa_nil))))) pss_nil)))))
      (pss_one (ps_ret (pe_tup (pa_cons (pe_callTy (cTup K) (by rfl) (T.b 73) (by decide +kernel) (pa_cons (pv 3) pa_nil)) (pa_cons (fldK K (pv 2) rfl) (pa_cons (pe_callTy (cTup K) (by rfl) (T.b 73) (by decide +kernel) (pa_cons (pv 4) pa_nil)) pa_nil))))))))))), ?_⟩
    walk_at "rd"
    refine is_costs_yes hd o fun H1 e1 => ⟨_, rfl, iteF ?_⟩
    walk_at "rd"
    refine is_toll_yes o ⟨_, rfl, iteF ?_⟩
    walk_at "rd"
    refine ⟨Nat.zero_le _, fun z hz => ?_⟩
    have e2 := ex_newT (o := .tup []) e1 hz
    refine ⟨_, _, dp_sb (ex_sb e2) hd, dp_empty, shaped_costs rows, shaped_nil, _, rfl, ?_⟩
    rw [eqv_nil]
    refine r_ifV (v := .int (n : Int)) (fun c => ?_) (fun cc R q => ?_) ?_
    · cases rows with
      | nil =>
        have := o.none rfl
        subst this
        exact fun R q => q
      | cons r rs => cases c
    · cases rows with
      | nil => cases cc
      | cons r rs =>
        obtain ⟨b, hb, hs⟩ := ca.get 0 r rfl
        walk_at "rd"
        refine r_ixT ((ex_sb e2).t _ _ ca.sq) (atI_nat (j := 0) hb) ?_
        walk_at "rd"
        refine ⟨b, _, rfl, .inr ((ex_sb e2).t _ _ hs), ?_⟩
        rw [List.length_map, o.row List.mem_cons_self]
        exact q
    walk_at "rd"
    intro a dx ha hdx hne
    have ha0 := ex_free e2 ha
    have e3 : Ex H (upd (upd _ dx (.own a)) a (.ins (He.ga K "Under") dx [])) := ex_newT (ex_newT e2 hdx) (by rw [upd_ne hne.symm]; exact ha)
    refine ⟨a, n, toll, dx, rfl, upd_same, n1, n5, o.g.t1, o.t2, fun H2 p0 k2 u2 => ⟨rfl, ?_⟩⟩
    have e4 := ex_kp e3 ha0 k2
    walk_at "rd"
    refine ⟨Nat.zero_le _, fun L1 hL1 => ?_⟩
    have hL10 := ex_free e4 hL1
    have e5 := ex_newT (o := .lst []) e4 hL1
    have u5 := u2.ex (ex_new (o := .lst []) hL1)
    walk_at "rd"
    refine ⟨Nat.zero_le _, fun L2 hL2 => ?_⟩
    have hL20 := ex_free e5 hL2
    have hL12 : L1 ≠ L2 := fun e => by
      rw [← e, upd_same] at hL2
      cases hL2
    have e6 := ex_newT (o := .lst []) e5 hL2
    have u6 := u5.ex (ex_new (o := .lst []) hL2)
    walk_at "rd"
    refine ⟨c, xs, rfl, (ex_sb e6).t _ _ ca.sq, ?_⟩
    refine forW (walk_enumT (K := K) (a := c) (xs := xs)) (fun i σ H' => ∃ u v w p, σ = [some (.ref c), some (.int toll), some (.ref a), some (.ref L1), some (.ref L2), u, v, w] ∧ Ex H H' ∧ UnAt K H' a n toll (UM.S toll n rows i) p ∧
        H' L1 = some (.lst (vNats (chs toll n rows i))) ∧ H' L2 = some (.lst (vNats (eds toll n rows i))))
      ⟨_, _, _, _, rfl, e6, u6, by rw [upd_ne hL12, upd_same]; rfl, upd_same⟩ (fun i σ H' _ p => ?_) (fun i z σ H3 H4 hi p y => ?_) (fun σ H' p => ?_)
    · obtain ⟨u, v, w, p, rfl, e7, _⟩ := p
      exact (ex_sb e7).t _ _ ca.sq
    · obtain ⟨u, v, w, p, rfl, e7, u7, h1, h2⟩ := p
      obtain ⟨T', y1, r, rfl, hT, rfl, hy1, hr1⟩ := y
      cases hy1
      have hmi : i < rows.length := by rw [← ca.len]; exact hi
      obtain ⟨br, hbr, hsr⟩ := ca.get i _ (row_get hmi)
      have er : r = .ref br := Option.some.inj (hr1.symm.trans hbr)
      subst er
      have n8 := ex_new (o := .tup [V.int (i : Int), V.ref br]) hT
      have e8 := Evl.Ex.trans e7 n8
      have u8 := u7.ex n8
      refine r_pair (SqT.of upd_same) ?_
      walk_at "rd"
      refine f_phases T u8 ?_
      walk_at "rd"
      refine ⟨.inl ⟨rfl, _, SqL.of (n8 _ _ h1)⟩, ?_⟩
      walk_at "rd"
      refine m_under u8 (by rfl) ?_
      walk_at "rd"
      refine ⟨a, n, toll, _, p, br, UM.row rows i, rfl, u8, (ex_sb e8).t _ _ hsr, ⟨o.g.len i hmi, fun x hx => o.top _ (row_mem hmi) x hx⟩, n5, UM.S_ok o.g i (by omega), fun H5 p5 k5 u9 => ?_⟩
      have h15 := u8.keep k5 (n8 _ _ h1)
      have h25 := u8.keep k5 (n8 _ _ h2)
      have e9 := ex_kp e8 ha0 k5
      walk_at "rd"
      refine r_append h15 (by rw [List.length_map, chs_len]; omega) ?_
      have u10 := u9.lst (ys := vNats (chs toll n rows i) ++ [V.int ((UM.nextKind toll n (UM.S toll n rows i) (UM.row rows i) : Nat) : Int)]) h15
      have e10 := ex_chg (o := .lst (vNats (chs toll n rows i) ++ [V.int ((UM.nextKind toll n (UM.S toll n rows i) (UM.row rows i) : Nat) : Int)])) e9 hL10
      have h26 : (upd H5 L1 (.lst (vNats (chs toll n rows i) ++ [V.int ((UM.nextKind toll n (UM.S toll n rows i) (UM.row rows i) : Nat) : Int)]))) L2 = _ := (upd_ne hL12.symm).trans h25
      have h16 : (upd H5 L1 (.lst (vNats (chs toll n rows i) ++ [V.int ((UM.nextKind toll n (UM.S toll n rows i) (UM.row rows i) : Nat) : Int)]))) L1 = some (.lst (vNats (chs toll n rows (i + 1)))) := by
        rw [upd_same, chsV]
      walk_at "rd"
      refine f_phases T u10 ?_
      walk_at "rd"
      have hph : (UM.step toll n (UM.S toll n rows i) (UM.row rows i)).phases = if UM.ended toll n rows i = true then (UM.S toll n rows i).phases + 1 else (UM.S toll n rows i).phases := rfl
      refine ifB (fun c => ?_) (fun c => ?_)
      · have hen : UM.ended toll n rows i = true := by
          cases q : UM.ended toll n rows i with
          | true => rfl
          | false =>
            rw [q] at hph
            have := of_decide_eq_true c
            simp at hph
            omega
        walk_at "rd"
        refine ⟨.inl ⟨rfl, _, SqL.of h26⟩, ?_⟩
        walk_at "rd"
        have hle := eds_len (toll := toll) (n := n) (rows := rows) (i := i)
        refine r_append h26 (by rw [List.length_map]; omega) ?_
        walk_at "rd"
        refine ⟨_, _, _, p5, rfl, ex_chg e10 hL20, u10.lst h26, (upd_ne hL12).trans h16, ?_⟩
        rw [upd_same, eds_succ, if_pos hen]
        show _ = some (HO.lst (List.map _ (_ ++ [i])))
        rw [List.map_append]
        rfl
      · have hen : UM.ended toll n rows i = false := by
          cases q : UM.ended toll n rows i with
          | false => rfl
          | true =>
            rw [q] at hph
            have := of_decide_eq_false c
            simp at hph
            omega
        walk_at "rd"
        refine ⟨_, _, _, p5, rfl, e10, u10, h16, ?_⟩
        rw [h26, eds_succ, hen]
        simp
    · obtain ⟨u, v, w, p, rfl, e7, u7, h1, h2⟩ := p
      walk_at "rd"
      refine ⟨L1, _, rfl, .inl ⟨SqL.of h1, fun pc hpc => ?_⟩⟩
      have n8 := ex_new (o := .tup (vNats (chs toll n rows xs.length))) hpc
      walk_at "rd"
      refine f_paid T (u7.ex n8) ?_
      walk_at "rd"
      refine ⟨L2, _, rfl, .inl ⟨SqL.of (n8 _ _ h2), fun pe hpe => ?_⟩⟩
      have n9 := ex_newT (o := .tup (vNats (eds toll n rows xs.length))) n8 hpe
      walk_at "rd"
      refine ⟨Nat.le_of_lt (small_line (by show 3 ≤ 1000000; decide)), fun t ht => ?_⟩
      have n10 := ex_newT (o := .tup [V.ref pc, .int (UM.S toll n rows xs.length).paid, V.ref pe]) n9 ht
      rw [← ca.len] at k
      exact k t pc pe _ (Evl.Ex.trans e7 n10) upd_same ((ex_sb (ex_new ht)).t _ _ ((ex_sb (ex_new hpe)).t _ _ (SqT.of upd_same))) ((ex_sb (ex_new ht)).t _ _ (SqT.of upd_same))
theorem sc_phases_cost : FnScope ["costs", "toll", "ends", "end"] ["costs", "toll", "ends"] (defScope sphases_cost) := ⟨rfl, rfl, rfl, by decide +kernel, rfl, by decide +kernel, by decide +kernel⟩
theorem ok_phases_cost (T : Tx fa fn K mg) : GFn P w K mg base 6 (He.fAd K dphases_cost.at_) ["costs", "toll", "ends"] (sp_phases_cost K) := by
  obtain ⟨fd, F⟩ := T.says.def_ 18 (d := dphases_cost) rfl
  refine ok0 F sc_phases_cost (fun vs H Q E h => ?_) (fun _ _ _ _ _ _ us hl => match us, hl with | [_, _, _], _ => rfl) (fun cdv A outer s H vs Q E hr h => ?_)
  · obtain ⟨x, toll, n, rows, pe, es, rfl, _⟩ := h
    rfl
  · obtain ⟨x, toll, n, rows, pe, es, rfl, hd, o, hpe, ⟨hrise, hlt⟩, h64, k⟩ := h
    have n1 := o.g.n1
    obtain ⟨c, xs, ca⟩ := cost_at hd
    have ev := ca.ev
    subst ev
    have hpi : SqT K H pe ((zInts es).map V.int) := by rw [← vnats_ints]; exact hpe
    refine ⟨_, (pss_cons (ps_if (PW.pt (pw_or (pt_not (pt_val (gc (ok_is_costs T) (hr.mono (by decide)) (T.g 3) pn (pa_cons (pv 0) pa_nil)))) (pw_or1 (pt_not (pt_val (gc (ok_is_toll T) (hr.mono (by decide)) (T.g 4) pn (pa_cons (pv 1) pa_nil))))))) (pss_one ps_never) pss_nil)
      (pss_cons (ps_if (PW.pt (pw_or (pt_not (pt_val (isaK2 K (pe_isa isa_tuple (T.b 62) (T.b 73) (by decide +kernel) (pv 2))))) (pw_or1 (pt_not (pt_val (pe_callB (cAll K rfl) (by rfl) (T.b 58) (by decide +kernel) (pa_cons (pe_lc (own := [("end", 3)]) (g := gName 3) (tt := tYes) rfl sc_phases_cost.nd (piT K (pv 2)) (blkOk_by (N := ["costs", "toll", "ends", "end"]) (sc := defScope sphases_cost) (by decide +kernel)) (fun _ _ _ _ _ => pg_name (i := 3) sc_phases_cost.nd rfl (Or.inl rfl)) (fun _ _ _ _ _ => pts_nil) (fun _ _ _ _ _ => (gc (ok_is_whole_in T) (hr.mono (by decide)) (T.g 15) pn (pa_cons (pv 3) (pa_cons pe_int (pa_cons (pe_op op_sub (pe_callB (cLen K) (by rfl) (T.b 63) (by decide +kernel) (pa_cons (pv 0) pa_nil)) pe_int) pa_nil)))))) pa_nil))))))) (pss_one ps_never) pss_nil)
      (pss_cons (ps_if (pt_cmpR (neK K hr.rm.units) (pe_callTy (cList K) (by rfl) (T.b 64) (by decide +kernel) (pa_cons (pv 2) pa_nil)) (pe_callB (cr_sortedSetN rfl) (by rfl) (T.b 71) (by decide +kernel) (pa_cons (pe_callTy (cSet K rfl) (by rfl) (T.b 70) (by decide +kernel) (pa_cons (pv 2) pa_nil)) pa_nil)) (nomark _)) (pss_one ps_never) pss_nil)
      (pss_one (ps_ret (pe_callB (cSum K rfl) (by rfl) (T.b 72) (by decide +kernel) (pa_cons (pe_lc (own := [("end", 3)]) (g := gName 3) (tt := tYes) rfl sc_phases_cost.nd (piT K (pv 2)) (blkOk_by (N := ["costs", "toll", "ends", "end"]) (sc := defScope sphases_cost) (by decide +kernel)) (fun _ _ _ _ _ => pg_name (i := 3) sc_phases_cost.nd rfl (Or.inl rfl)) (fun _ _ _ _ _ => pts_nil) (fun _ _ _ _ _ => (pe_callB (call_max2 rfl) (by rfl) (T.b 65) (by decide +kernel) (pa_cons (pv 1) (pa_cons (pe_callB (cMin K rfl) (by rfl) (T.b 66) (by decide +kernel) (pa_cons (pe_ix (ixT K) (pv 0) (pv 3) (fun _ _ => rfl)) pa_nil)) pa_nil))))) pa_nil))))))), ?_⟩
    walk_at "rd"
    refine is_costs_yes hd o fun H1 e1 => ⟨_, rfl, iteF ?_⟩
    walk_at "rd"
    refine is_toll_yes o ⟨_, rfl, iteF ?_⟩
    walk_at "rd"
    refine ⟨_, dp_of_ints ((ex_sb e1).t _ _ hpi), _, rfl, iteF ?_⟩
    walk_at "rd"
    refine lcT_map (zs := es) (fun _ => V.bl true) (val_var rfl) ((ex_sb e1).t _ _ hpe) (List.length_map _) (by rw [List.length_map]; omega) (fun _ => by rfl) (fun i x z hx hz H2 e2 R q => ?_) (fun D H2 hD e2 h1 => ?_)
    · obtain ⟨k', hk, rfl, hm⟩ := vnats_get hx
      rw [hz] at hk
      cases hk
      walk_at "rd"
      refine ⟨c, xs, rfl, .inr ((ex_sb (Evl.Ex.trans e1 e2)).t _ _ ca.sq), ?_⟩
      walk_at "rd"
      refine ⟨_, _, _, _, rfl, .int _, ?_⟩
      rw [btw_top.mpr ⟨by omega, by
        have := hlt _ hm
        have := ca.len
        omega⟩]
      exact q _ (Evl.Ex.refl _)
    have e12 := Evl.Ex.trans e1 e2
    walk_at "rd"
    refine ⟨D, es.map fun _ => true, rfl, by rw [List.map_map]; exact SqL.of h1, ?_⟩
    have z : (es.map fun _ => true).all id = true := by
      rw [List.all_map, List.all_eq_true]
      exact fun _ _ => rfl
    rw [z]
    refine ⟨_, rfl, iteF ?_⟩
    walk_at "rd"
    refine ⟨pe, _, rfl, .inr ((ex_sb e12).t _ _ hpi), fun l hl => ?_⟩
    have e3 := ex_newT (o := .lst ((zInts es).map V.int)) e12 hl
    walk_at "rd"
    refine ⟨pe, zInts es, rfl, (ex_sb e3).t _ _ hpi, ?_, fun p cc hp hcc => ?_⟩
    · unfold zInts
      rw [List.length_map]
      omega
    have n4 := ex_new (o := SetO w p (fun j => decide (j ∈ zInts es)) cc) hp
    have e4 := Evl.Ex.trans e3 n4
    walk_at "rd"
    refine ⟨p, _, cc, rfl, upd_same, ?_, fun ns q hs hm hlen hq => ?_⟩
    · unfold zInts at hcc
      rw [List.length_map] at hcc
      omega
    have ens : ns = zInts es := rising_eq hs (rise_ints hrise) fun k => by
      rw [hm k]
      exact decide_eq_true_iff
    subst ens
    have n5 := ex_new (o := .lst ((zInts es).map V.int)) hq
    have e5 := Evl.Ex.trans e4 n5
    refine ⟨_, _, .lst (SqL.of (n5 _ _ (n4 _ _ upd_same))) (dpa_ints _), .lst (SqL.of upd_same) (dpa_ints _), shaped_lints _, shaped_lints _, ?_⟩
    rw [SeqAt.eqv_refl (.list ((zInts es).map PyData.int)) (lay_ints _)]
    refine ⟨_, rfl, iteF ?_⟩
    walk_at "rd"
    refine lcT_map (zs := es) (fun e => V.int (UM.biggest toll (lmin (UM.row rows e)))) (val_var rfl) ((ex_sb e5).t _ _ hpe) (List.length_map _) (by rw [List.length_map]; omega) (fun _ => by rfl) (fun i x z hx hz H6 e6 R q => ?_) (fun D2 H6 hD2 e6 h6 => ?_)
    · obtain ⟨k', hk, rfl, hm⟩ := vnats_get hx
      rw [hz] at hk
      cases hk
      have hmi := hlt _ hm
      obtain ⟨br, hbr, hsr⟩ := ca.get z _ (row_get hmi)
      have e7 := Evl.Ex.trans e5 e6
      walk_at "rd"
      refine r_ixT ((ex_sb e7).t _ _ ca.sq) (atI_nat hbr) ?_
      walk_at "rd"
      refine ⟨br, _, rfl, .inr ((ex_sb e7).t _ _ hsr), fun q => ?_, ?_⟩
      · have := o.g.len z hmi
        rw [q] at this
        have : (0 : Nat) = n := this
        omega
      walk_at "rd"
      exact ⟨_, _, rfl, q _ (Evl.Ex.refl _)⟩
    · walk_at "rd"
      refine ⟨D2, es.map fun e => UM.biggest toll (lmin (UM.row rows e)), rfl, SqL.of (by rw [h6, List.map_map]; rfl), ?_⟩
      exact k H6 (Evl.Ex.trans e5 e6)
end
end PU
/-! PDraw: the law's draws: _law_begun, _law_take, _law_pick, _law_toll. -/
namespace PU
open PySem PySem.Spec PyProof.Rows L2 Ts K96
local macro_rules | `(tactic| walk_at "rd1") => `(tactic| first
  | with_reducible refine r_seq ?_ | with_reducible refine r_ret ?_ | with_reducible refine r_asg ?_ | with_reducible refine r_drop ?_ | with_reducible refine r_ifS ?_ | with_reducible refine r_next ?_
  | (with_reducible refine r_varE ?_; refine ⟨_, rfl, ?_⟩) | with_reducible refine r_c ?_ | with_reducible refine r_op ?_ | with_reducible refine r_I0 ?_ | (with_reducible refine r_eq ?h1 ?_; (case h1 => exact rfl)) | (with_reducible refine r_ne ?h1 ?_; (case h1 => exact rfl))
  | with_reducible refine r_nil ?_ | with_reducible refine r_cons ?_ | with_reducible refine r_cb ?_ | with_reducible refine r_call ?_ | with_reducible refine r_test ?_ | with_reducible refine r_tB ?_ | with_reducible refine r_bll ?_ | with_reducible refine r_int ?_
  | with_reducible refine r_not ?_ | with_reducible refine r_and ?_ | with_reducible refine r_or ?_ | with_reducible refine r_if ?_ | with_reducible refine r_isa ?_ | with_reducible refine r_tup ?_ | with_reducible refine r_lst ?_
  | with_reducible refine r_for ?_ | with_reducible refine r_iTup ?_ | with_reducible refine r_iList ?_ | with_reducible refine r_rng1 ?_ | with_reducible refine r_rng2 ?_ | with_reducible refine r_zipA ?_ | with_reducible refine r_enT ?_ | with_reducible refine r_zipM ?_ | with_reducible refine r_bmG ?_ | with_reducible refine r_enL ?_ | with_reducible refine r_revA ?_
  | (with_reducible refine r_augE ?_; refine ⟨_, rfl, ?_⟩) | with_reducible refine r_ipI ?_ | with_reducible refine r_rAdd ?_ | with_reducible refine r_bm ?_ | with_reducible refine r_bm0 ?_ | with_reducible refine r_gn ?_ | with_reducible refine r_asgG ?_
  | with_reducible refine r_sl ?_ | with_reducible refine r_nop ?_ | with_reducible refine r_part ?_ | with_reducible refine r_chain ?_ | with_reducible refine r_un ?_ | with_reducible refine r_rU ?_ | with_reducible refine r_fldE ?_ | with_reducible refine r_sfld ?_ | with_reducible refine r_sfldaug ?_ | with_reducible refine r_lstRg ?_ | with_reducible refine r_rg1 ?_ | with_reducible refine r_dget ?_ | with_reducible refine r_dput ?_ | with_reducible refine r_disp ?_ | with_reducible refine r_gsub ?_ | with_reducible refine r_pairC ?_ | with_reducible refine r_pairN ?_ | with_reducible refine r_meth ?_ | with_reducible refine r_make ?_ | with_reducible refine iteT ?_ | with_reducible refine iteF ?_)
local macro_rules | `(tactic| walk_at "rd") => `(tactic| repeat walk_at "rd1")

def SD (c : Addr) (at_ rest turn more : Int) : List (Key × V) := [(.inr "cells", .ref c), (.inr "at", .int at_), (.inr "rest", .int rest), (.inr "turn", .int turn), (.inr "more", .int more)]
/-- the draws' state at s, its cells at c -/
def DsAt (H : Hp) (s c : Addr) : Prop := ∃ (at_ : Nat) (rest : Int) (turn : Nat) (more : Int), H s = some (.dK (SD c at_ rest turn more))
structure StAt (K : PySem.W.Frag) (H : Hp) (s c : Addr) (ns : List Int) : Prop where
  d : DsAt H s c
  q : SqL K H c (ns.map V.int)
  n : ns.length ≤ 1000000
section
variable {K : PySem.W.Frag} {H : Hp} {s c : Addr} {ns : List Int} {at_ rest turn more x : Int}
theorem DsAt.kp {H' : Hp} (d : DsAt H s c) (k : Kp [s] H H') : Sb K H H' := by
  obtain ⟨_, _, _, _, h⟩ := d
  exact k.sb1 h rfl
theorem DsAt.ne (d : DsAt H s c) : H s ≠ none := by
  obtain ⟨_, _, _, _, h⟩ := d
  rw [h]
  exact fun z => by cases z
theorem DsAt.upd {H0 : Hp} {D : Addr} {o : HO} (h0 : H0 s ≠ none) (hD : H0 D = none) (d : DsAt H s c) : DsAt (upd H D o) s c := by
  obtain ⟨a, r, t, m, h⟩ := d
  have hne : s ≠ D := fun e => h0 (by rw [e]; exact hD)
  exact ⟨a, r, t, m, by rw [upd_ne hne]; exact h⟩
theorem DsAt.ex {H' : Hp} (d : DsAt H s c) (e : Ex H H') : DsAt H' s c := by
  obtain ⟨a, r, t, m, h⟩ := d
  exact ⟨a, r, t, m, e _ _ h⟩
theorem StAt.step {H' : Hp} (t : StAt K H s c ns) (k : Kp [s] H H') (d : DsAt H' s c) : StAt K H' s c ns := ⟨d, (t.d.kp k).l _ _ t.q, t.n⟩
theorem StAt.ex {H' : Hp} (t : StAt K H s c ns) (e : Ex H H') : StAt K H' s c ns := ⟨t.d.ex e, (ex_sb e).l _ _ t.q, t.n⟩
theorem g_cells (h : H s = some (.dK (SD c at_ rest turn more))) : DGet H s (.str "cells") (some (.ref c)) := .inl ⟨_, .inr "cells", .inl h, rfl, by rfl⟩
theorem g_at (h : H s = some (.dK (SD c at_ rest turn more))) : DGet H s (.str "at") (some (.int at_)) := .inl ⟨_, .inr "at", .inl h, rfl, by rfl⟩
theorem g_rest (h : H s = some (.dK (SD c at_ rest turn more))) : DGet H s (.str "rest") (some (.int rest)) := .inl ⟨_, .inr "rest", .inl h, rfl, by rfl⟩
theorem g_turn (h : H s = some (.dK (SD c at_ rest turn more))) : DGet H s (.str "turn") (some (.int turn)) := .inl ⟨_, .inr "turn", .inl h, rfl, by rfl⟩
theorem g_more (h : H s = some (.dK (SD c at_ rest turn more))) : DGet H s (.str "more") (some (.int more)) := .inl ⟨_, .inr "more", .inl h, rfl, by rfl⟩
theorem p_at (h : H s = some (.dK (SD c at_ rest turn more))) : DPut H s (.str "at") (.int x) (upd H s (.dK (SD c x rest turn more))) := .inl ⟨_, .inr "at", h, rfl, small_line (by show 5 ≤ 1000000; decide), by rfl⟩
theorem p_rest (h : H s = some (.dK (SD c at_ rest turn more))) : DPut H s (.str "rest") (.int x) (upd H s (.dK (SD c at_ x turn more))) := .inl ⟨_, .inr "rest", h, rfl, small_line (by show 5 ≤ 1000000; decide), by rfl⟩
theorem p_turn (h : H s = some (.dK (SD c at_ rest turn more))) : DPut H s (.str "turn") (.int x) (upd H s (.dK (SD c at_ rest x more))) := .inl ⟨_, .inr "turn", h, rfl, small_line (by show 5 ≤ 1000000; decide), by rfl⟩
theorem p_more (h : H s = some (.dK (SD c at_ rest turn more))) : DPut H s (.str "more") (.int x) (upd H s (.dK (SD c at_ rest turn x))) := .inl ⟨_, .inr "more", h, rfl, small_line (by show 5 ≤ 1000000; decide), by rfl⟩
end
def sp_law_begun (K : PySem.W.Frag) : Sp := fun vs H Q _ => ∃ (a : Addr) (ns : List Int), vs = [.ref a] ∧ SqL K H a (ns.map V.int) ∧ ns.length ≤ 1000000 ∧ ∀ s c ms H', H s = none → Ex H H' → StAt K H' s c ms → Q (.ref s) H'
def sp_law_take (K : PySem.W.Frag) : Sp := fun vs H Q _ => ∃ s c ns many, vs = [.ref s, .int many] ∧ 1 ≤ many ∧ many < 1073741824 ∧ StAt K H s c ns ∧ ∀ H' v, Kp [s] H H' → DsAt H' s c → 0 ≤ v → v < many → Q (.int v) H'
theorem a_and {t u : TT} {σ : L2.St} {H : Hp} {a b : Bool} (h1 : Ans t σ H a) (h2 : a = true → Ans u σ H b) : Ans (tAnd t u) σ H (a && b) := fun R q => h1 _ (by
  cases a with
  | true => exact iteT (h2 rfl R q)
  | false => exact iteF q)
def sp_law_pick (K : PySem.W.Frag) : Sp := fun vs H Q _ => ∃ (s c : Addr) (ns : List Int) (l : Addr) (xs : List Int), vs = [.ref s, .ref l] ∧ StAt K H s c ns ∧ SqL K H l (xs.map V.int) ∧ xs ≠ [] ∧ xs.length < 1000 ∧ ∀ H' x, Kp [s] H H' → DsAt H' s c → x ∈ xs → Q (.int x) H'
def sp_law_toll (K : PySem.W.Frag) : Sp := fun vs H Q _ => ∃ s c ns, vs = [.ref s] ∧ StAt K H s c ns ∧ ∀ H' x, Kp [s] H H' → DsAt H' s c → 1 ≤ x → x ≤ 1000 → Q (.int x) H'
section
variable {P : Program} {w : World} {K : PySem.W.Frag} {mg : Str → Option Value} {base : Heap}
theorem sc_law_begun : FnScope ["_law_script", "_law_cell"] ["_law_script"] (defScope slaw_begun) := ⟨rfl, rfl, rfl, by decide +kernel, rfl, by decide +kernel, by decide +kernel⟩
theorem ok_law_begun (T : Tx fa fn K mg) : GFn P w K mg base 1 (He.fAd K dlaw_begun.at_) ["_law_script"] (sp_law_begun K) := by
  obtain ⟨fd, F⟩ := T.says.def_ 19 (d := dlaw_begun) rfl
  refine ok0 F sc_law_begun (fun vs H Q E h => ?_) (fun _ _ _ _ _ _ us hl => match us, hl with | [_], _ => rfl) (fun cdv A outer s H vs Q E hr h => ?_)
  · obtain ⟨a, ns, rfl, _⟩ := h
    rfl
  · obtain ⟨a, ns, rfl, ha, hn, k⟩ := h
    have hu := hu_of hr.rm
    refine ⟨_, (pss_one (ps_ret (pe_disp (pps_cons pe_str (pe_lc (own := [("_law_cell", 1)]) (g := gName 1) (tt := tYes) rfl sc_law_begun.nd (piL K (pv 0)) (blkOk_by (N := ["_law_script", "_law_cell"]) (sc := defScope slaw_begun) (by decide +kernel)) (fun _ _ _ _ _ => pg_name (i := 1) sc_law_begun.nd rfl (Or.inl rfl)) (fun _ _ _ _ _ => pts_nil) (fun _ _ _ _ _ => (pe_callB call_abs (by rfl) (T.b 57) (by decide +kernel) (pa_cons (pv 1) pa_nil)))) (pps_cons pe_str pe_int (pps_cons pe_str pe_int (pps_cons pe_str pe_int (pps_cons pe_str (pe_op op_add pe_int (pe_callB (cLen K) (by rfl) (T.b 63) (by decide +kernel) (pa_cons (pv 0) pa_nil))) pps_nil))))) (by rfl) (by rfl) (fun z => by cases z) (by decide)))), ?_⟩
    walk_at "rd"
    intro p hp
    have e0 := ex_new (o := .dK []) hp
    walk_at "rd"
    refine lcL_map (zs := ns) (fun x => V.int (if x < 0 then -x else x)) (val_var rfl) ((ex_sb e0).l _ _ ha) (List.length_map _) (by rw [List.length_map]; exact hn) (fun _ => by rfl) (fun i x z hx hz H' e R q => ?_) (fun D H' hD e h1 => ?_)
    · rw [List.getElem?_map, hz] at hx
      cases hx
      walk_at "rd"
      exact ⟨z, rfl, q _ (Evl.Ex.refl _)⟩
    have e1 := Evl.Ex.trans e0 e
    walk_at "rd"
    refine ⟨a, _, rfl, .inl ((ex_sb e1).l _ _ ha), ?_⟩
    walk_at "rd"
    have hDp : D ≠ p := fun z => by
      rw [z, upd_same] at hD
      cases hD
    refine ⟨e _ _ upd_same, SD D 0 0 0 (7 + (((ns.map V.int).length : Nat) : Int)), rfl, by show 5 ≤ 15; decide, ?_⟩
    refine k p D (ns.map fun x => if x < 0 then -x else x) _ hp (ex_chg e1 hp) ⟨⟨0, 0, 0, _, upd_same⟩, SqL.of ?_, by rw [List.length_map]; exact hn⟩
    rw [upd_ne hDp, h1, List.map_map]
    rfl
theorem sc_law_take : FnScope ["_law_state", "_law_many", "_law_cells", "_law_found", "_law_cell"] ["_law_state", "_law_many"] (defScope slaw_take) := ⟨rfl, rfl, rfl, by decide +kernel, rfl, by decide +kernel, by decide +kernel⟩
theorem ok_law_take (T : Tx fa fn K mg) : GFn P w K mg base 1 (He.fAd K dlaw_take.at_) ["_law_state", "_law_many"] (sp_law_take K) := by
  obtain ⟨fd, F⟩ := T.says.def_ 20 (d := dlaw_take) rfl
  refine ok0 F sc_law_take (fun vs H Q E h => ?_) (fun _ _ _ _ _ _ us hl => match us, hl with | [_, _], _ => rfl) (fun cdv A outer s H vs Q E hr h => ?_)
  · obtain ⟨s, c, ns, many, rfl, _⟩ := h
    rfl
  · obtain ⟨st, c, ns, many, rfl, m1, m2, hst, k⟩ := h
    have hu := hu_of hr.rm
    have hn := hst.n
    obtain ⟨⟨a0, r0, t0, o0, hd⟩, hq⟩ := hst
    refine ⟨_, (pss_cons (ps_set (i := 2) sc_law_take.nd rfl (Or.inl rfl) (pe_dget hu (pv 0) pe_str (fun _ _ => rfl)))
      (pss_cons (ps_while (by first | exact PassesOwn.never | exact passes_of rfl) (PW.pt (pw_and (pt_cmpR op_lt (pe_dget hu (pv 0) pe_str (fun _ _ => rfl)) pe_int (nomark _)) (pw_and1 (pt_cmpR op_lt (pe_dget hu (pv 0) pe_str (fun _ _ => rfl)) (pe_callB (cLen K) (by rfl) (T.b 63) (by decide +kernel) (pa_cons (pv 2) pa_nil)) (nomark _))))) (pss_cons (ps_if (pt_cmpR op_ge (pe_ix (ixL K) (pv 2) (pe_dget hu (pv 0) pe_str (fun _ _ => rfl)) (fun _ _ => rfl)) (pe_op op_pow pe_int pe_int) (nomark _)) (pss_one (ps_dput hu (pv 0) pe_str (pe_ix (ixL K) (pv 2) (pe_dget hu (pv 0) pe_str (fun _ _ => rfl)) (fun _ _ => rfl)) rfl)) pss_nil)
      (pss_one (ps_dput hu (pv 0) pe_str (pe_op op_add (pe_dget hu (pv 0) pe_str (fun _ _ => rfl)) pe_int) rfl))))
      (pss_cons (ps_if (pt_cmpR op_gt (pe_dget hu (pv 0) pe_str (fun _ _ => rfl)) pe_int (nomark _)) (pss_cons (ps_set (i := 3) sc_law_take.nd rfl (Or.inl rfl) (pe_op op_mod (pe_dget hu (pv 0) pe_str (fun _ _ => rfl)) (pv 1)))
      (pss_cons (ps_dput hu (pv 0) pe_str (pe_op op_fdiv (pe_dget hu (pv 0) pe_str (fun _ _ => rfl)) (pv 1)) rfl)
      (pss_one (ps_ret (pv 3))))) pss_nil)
      (pss_cons (ps_set (i := 4) sc_law_take.nd rfl (Or.inl rfl) pe_int)
      (pss_cons (ps_if (pt_cmpR op_gt (pe_callB (cLen K) (by rfl) (T.b 63) (by decide +kernel) (pa_cons (pv 2) pa_nil)) pe_int (nomark _)) (pss_one (ps_set (i := 4) sc_law_take.nd rfl (Or.inl rfl) (pe_ix (ixL K) (pv 2) (pe_op op_mod (pe_dget hu (pv 0) pe_str (fun _ _ => rfl)) (pe_callB (cLen K) (by rfl) (T.b 63) (by decide +kernel) (pa_cons (pv 2) pa_nil))) (fun _ _ => rfl)))) pss_nil)
      (pss_cons (ps_dput hu (pv 0) pe_str (pe_op op_add (pe_dget hu (pv 0) pe_str (fun _ _ => rfl)) pe_int) rfl)
      (pss_cons (ps_dput hu (pv 0) pe_str (pe_op op_mod (pe_op op_add (pe_op op_add (pe_op op_mul (pe_dget hu (pv 0) pe_str (fun _ _ => rfl)) pe_int) (pv 4)) (pe_dget hu (pv 0) pe_str (fun _ _ => rfl))) pe_int) rfl)
      (pss_one (ps_ret (pe_op op_mod (pe_op op_mod (pe_op op_add (pe_op op_mul (pe_dget hu (pv 0) pe_str (fun _ _ => rfl)) (pe_dget hu (pv 0) pe_str (fun _ _ => rfl))) (pe_op op_mul pe_int (pe_dget hu (pv 0) pe_str (fun _ _ => rfl)))) pe_int) (pv 1))))))))))), ?_⟩
    walk_at "rd"
    refine ⟨st, _, rfl, g_cells hd, ?_⟩
    walk_at "rd"
    refine r_while (fun m σ H' => ∃ (at_ : Nat) (rest : Int) (turn : Nat) (more : Int) (u v : Option V), σ = [some (.ref st), some (.int many), some (.ref c), u, v] ∧ Kp [st] H H' ∧ H' st = some (.dK (SD c at_ rest turn more)) ∧ m = ns.length - at_)
      _ ⟨a0, r0, t0, o0, _, _, rfl, Kp.refl H, hd, rfl⟩ (fun m σ H' wm => ?_)
    obtain ⟨at_, rest, turn, more, u, v, rfl, kp, h, rfl⟩ := wm
    have q1 : SqL K H' c (ns.map V.int) := (kp.sb1 hd rfl).l _ _ hq
    have hlen : (ns.map V.int).length = ns.length := List.length_map _
    refine a_and (a := decide (rest < 2)) (b := decide ((at_ : Int) < (((ns.map V.int).length : Nat) : Int))) (fun R q => ?_) (fun _ R q => ?_) _ ?_
    · walk_at "rd"
      refine ⟨st, _, rfl, g_rest h, ?_⟩
      walk_at "rd"
      exact q
    · walk_at "rd"
      refine ⟨st, _, rfl, g_at h, ?_⟩
      walk_at "rd"
      refine ⟨c, _, rfl, .inl q1, ?_⟩
      walk_at "rd"
      exact q
    refine ifB (fun b => ?_) (fun b => ?_)
    · obtain ⟨_, b2⟩ := (Bool.and_eq_true _ _).mp b
      have hat : at_ < ns.length := by
        have := of_decide_eq_true b2
        omega
      have hg : (ns.map V.int)[at_]? = some (.int (ns.getD at_ 0)) := by
        rw [List.getElem?_map, List.getElem?_eq_getElem hat, List.getD_eq_getElem?_getD, List.getElem?_eq_getElem hat]
        rfl
      refine ⟨fun σ' H2 => ∃ (rest : Int) (u v : Option V), σ' = [some (.ref st), some (.int many), some (.ref c), u, v] ∧ Kp [st] H H2 ∧ H2 st = some (.dK (SD c ((at_ + 1 : Nat) : Int) rest turn more)), fun σ' H2 x => ?_, ?_⟩
      · obtain ⟨rest, u, v, e1, e2, e3⟩ := x
        exact ⟨_, by omega, at_ + 1, rest, turn, more, u, v, e1, e2, e3, rfl⟩
      walk_at "rd"
      refine ⟨st, _, rfl, g_at h, ?_⟩
      refine r_ixL q1 (atI_nat hg) ?_
      walk_at "rd"
      refine r_I ⟨by decide, by decide, by decide⟩ ?_
      walk_at "rd"
      refine ifB (fun b3 => ?_) (fun b3 => ?_)
      · walk_at "rd"
        refine ⟨st, _, rfl, g_at h, ?_⟩
        refine r_ixL q1 (atI_nat hg) ?_
        walk_at "rd"
        refine ⟨st, _, rfl, p_rest h, ?_⟩
        walk_at "rd"
        refine ⟨st, _, rfl, g_at upd_same, ?_⟩
        walk_at "rd"
        refine ⟨st, _, rfl, p_at upd_same, ?_⟩
        exact ⟨_, _, _, rfl, (kp.setT (List.mem_singleton.mpr rfl)).setT (List.mem_singleton.mpr rfl), upd_same⟩
      · walk_at "rd"
        refine ⟨st, _, rfl, g_at h, ?_⟩
        walk_at "rd"
        refine ⟨st, _, rfl, p_at h, ?_⟩
        exact ⟨_, _, _, rfl, kp.setT (List.mem_singleton.mpr rfl), upd_same⟩
    · walk_at "rd"
      refine ⟨st, _, rfl, g_rest h, ?_⟩
      walk_at "rd"
      refine ifB (fun b3 => ?_) (fun b3 => ?_)
      · walk_at "rd"
        refine ⟨st, _, rfl, g_rest h, ?_⟩
        walk_at "rd"
        refine r_I (by omega) ?_
        walk_at "rd"
        refine ⟨st, _, rfl, g_rest h, ?_⟩
        walk_at "rd"
        refine r_I ⟨by omega, m2⟩ ?_
        walk_at "rd"
        refine ⟨st, _, rfl, p_rest h, ?_⟩
        walk_at "rd"
        exact k _ _ (kp.setT (List.mem_singleton.mpr rfl)) ⟨_, _, _, _, upd_same⟩ (Int.emod_nonneg _ (by omega)) (Int.emod_lt_of_pos _ (by omega))
      · walk_at "rd"
        refine ⟨c, _, rfl, .inl q1, ?_⟩
        walk_at "rd"
        have ms : st ∈ [st] := List.mem_singleton.mpr rfl
        refine ifB (fun b4 => ?_) (fun b4 => ?_)
        walk_at "rd"
        refine ⟨st, _, rfl, g_turn h, ?_⟩
        walk_at "rd"
        refine ⟨c, _, rfl, .inl q1, ?_⟩
        have hpos : 0 < ns.length := by
          have := of_decide_eq_true b4
          omega
        refine r_I (by omega) ?_
        have ei : (turn : Int) % (((ns.map V.int).length : Nat) : Int) = ((turn % ns.length : Nat) : Int) := by rw [hlen]; exact (Int.natCast_emod _ _).symm
        rw [ei]
        refine r_ixL q1 (at_ints (Nat.mod_lt _ hpos)) ?_
        all_goals
          walk_at "rd"
          refine ⟨st, _, rfl, g_turn h, ?_⟩
          walk_at "rd"
          refine ⟨st, _, rfl, p_turn h, ?_⟩
          walk_at "rd"
          refine ⟨st, _, rfl, g_more upd_same, ?_⟩
          walk_at "rd"
          refine r_I (.inr ⟨by decide, by decide⟩) ?_
          walk_at "rd"
          refine ⟨st, _, rfl, g_turn upd_same, ?_⟩
          walk_at "rd"
          refine r_I (by decide) ?_
          walk_at "rd"
          refine ⟨st, _, rfl, p_more upd_same, ?_⟩
          walk_at "rd"
          refine ⟨st, _, rfl, g_more upd_same, ?_⟩
          walk_at "rd"
          refine ⟨st, _, rfl, g_more upd_same, ?_⟩
          refine r_I (.inl ⟨?_, ?_⟩) ?_
          · refine Int.lt_of_lt_of_le (b := 0) (by decide) (Int.emod_nonneg _ (by decide))
          · refine Int.lt_trans (Int.emod_lt_of_pos _ (by decide)) (by decide)
          walk_at "rd"
          refine ⟨st, _, rfl, g_more upd_same, ?_⟩
          refine r_I (.inl ⟨by decide, by decide⟩) ?_
          walk_at "rd"
          refine r_I (by decide) ?_
          walk_at "rd"
          refine r_I (by omega) ?_
          exact k _ _ ((kp.setT ms).setT ms) ⟨at_, rest, turn + 1, _, upd_same⟩ (Int.emod_nonneg _ (by omega)) (Int.emod_lt_of_pos _ (by omega))
theorem sc_law_pick : FnScope ["_law_state", "_law_some"] ["_law_state", "_law_some"] (defScope slaw_pick) := ⟨rfl, rfl, rfl, by decide +kernel, rfl, by decide +kernel, by decide +kernel⟩
theorem ok_law_pick (T : Tx fa fn K mg) : GFn P w K mg base 2 (He.fAd K dlaw_pick.at_) ["_law_state", "_law_some"] (sp_law_pick K) := by
  obtain ⟨fd, F⟩ := T.says.def_ 21 (d := dlaw_pick) rfl
  refine ok0 F sc_law_pick (fun vs H Q E h => ?_) (fun _ _ _ _ _ _ us hl => match us, hl with | [_, _], _ => rfl) (fun cdv A outer s H vs Q E hr h => ?_)
  · obtain ⟨s, c, ns, l, xs, rfl, _⟩ := h
    rfl
  · obtain ⟨st, c, ns, l, xs, rfl, hst, hl, hne, hlen, k⟩ := h
    refine ⟨_, (pss_one (ps_ret (pe_ix (ixL K) (pv 1) (gc (ok_law_take T) (hr.mono (by decide)) (T.g 20) pn (pa_cons (pv 0) (pa_cons (pe_callB (cLen K) (by rfl) (T.b 63) (by decide +kernel) (pa_cons (pv 1) pa_nil)) pa_nil))) (fun _ _ => rfl)))), ?_⟩
    have hpos : 0 < xs.length := List.length_pos_iff.mpr hne
    walk_at "rd"
    refine ⟨l, _, rfl, .inl hl, ?_⟩
    walk_at "rd"
    refine ⟨st, c, ns, _, rfl, by rw [List.length_map]; omega, by rw [List.length_map]; omega, hst, fun H' v kp d v0 v1 => ?_⟩
    rw [List.length_map] at v1
    obtain ⟨j, rfl⟩ := Int.eq_ofNat_of_zero_le v0
    have hj : j < xs.length := by omega
    refine r_ixL ((hst.d.kp kp).l _ _ hl) (at_ints hj) (k _ _ kp d ?_)
    rw [List.getD_eq_getElem?_getD, List.getElem?_eq_getElem hj]
    exact List.getElem_mem hj
end
end PU
/-! PBest: cheapest, the choice and the papers told too; is_paper, shows_none_less. -/
namespace PU
open PySem PySem.Spec PyProof.Rows L2 Ts K96
local macro_rules | `(tactic| walk_at "rd1") => `(tactic| first
  | with_reducible refine r_seq ?_ | with_reducible refine r_ret ?_ | with_reducible refine r_asg ?_ | with_reducible refine r_drop ?_ | with_reducible refine r_ifS ?_ | with_reducible refine r_next ?_
  | (with_reducible refine r_varE ?_; refine ⟨_, rfl, ?_⟩) | with_reducible refine r_c ?_ | with_reducible refine r_op ?_ | with_reducible refine r_I0 ?_ | (with_reducible refine r_eq ?h1 ?_; (case h1 => exact rfl)) | (with_reducible refine r_ne ?h1 ?_; (case h1 => exact rfl))
  | with_reducible refine r_nil ?_ | with_reducible refine r_cons ?_ | with_reducible refine r_cb ?_ | with_reducible refine r_call ?_ | with_reducible refine r_test ?_ | with_reducible refine r_tB ?_ | with_reducible refine r_bll ?_ | with_reducible refine r_int ?_
  | with_reducible refine r_not ?_ | with_reducible refine r_and ?_ | with_reducible refine r_or ?_ | with_reducible refine r_if ?_ | with_reducible refine r_isa ?_ | with_reducible refine r_tup ?_ | with_reducible refine r_lst ?_
  | with_reducible refine r_for ?_ | with_reducible refine r_iTup ?_ | with_reducible refine r_iList ?_ | with_reducible refine r_rng1 ?_ | with_reducible refine r_rng2 ?_ | with_reducible refine r_zipA ?_ | with_reducible refine r_enT ?_ | with_reducible refine r_zipM ?_ | with_reducible refine r_bmG ?_ | with_reducible refine r_enL ?_ | with_reducible refine r_revA ?_
  | (with_reducible refine r_augE ?_; refine ⟨_, rfl, ?_⟩) | with_reducible refine r_ipI ?_ | with_reducible refine r_rAdd ?_ | with_reducible refine r_bm ?_ | with_reducible refine r_bm0 ?_ | with_reducible refine r_gn ?_ | with_reducible refine r_asgG ?_
  | with_reducible refine r_sl ?_ | with_reducible refine r_nop ?_ | with_reducible refine r_part ?_ | with_reducible refine r_chain ?_ | with_reducible refine r_un ?_ | with_reducible refine r_rU ?_ | with_reducible refine r_fldE ?_ | with_reducible refine r_sfld ?_ | with_reducible refine r_sfldaug ?_ | with_reducible refine r_lstRg ?_ | with_reducible refine r_rg1 ?_ | with_reducible refine r_dget ?_ | with_reducible refine r_dput ?_ | with_reducible refine r_disp ?_ | with_reducible refine r_gsub ?_ | with_reducible refine r_pairC ?_ | with_reducible refine r_pairN ?_ | with_reducible refine r_meth ?_ | with_reducible refine r_make ?_ | with_reducible refine iteT ?_ | with_reducible refine iteF ?_)
local macro_rules | `(tactic| walk_at "rd") => `(tactic| repeat walk_at "rd1")

def sp_cheapestX (K : PySem.W.Frag) : Sp := fun vs H Q _ => ∃ x toll n rows, vs = [x, .int toll] ∧ Dp K H x (dCosts rows) ∧ Okc toll n rows ∧
  ∀ t pc pp H', Ex H H' → H' t = some (.tup [.ref pc, .int (UM.at0 (UM.top toll n rows) 0), .ref pp]) → SqT K H' pc (vNats (UM.best toll n rows)) → Dp K H' (.ref pp) (dCosts (UM.pap toll n rows)) → Q (.ref t) H'
theorem first_idx {xs : List Int} {x : Int} (h : x ∈ xs) : xs.idxOf x < xs.length ∧ (xs.map V.int)[xs.idxOf x]? = some (.int x) ∧ ∀ (m : Nat) (z : V), m < xs.idxOf x → (xs.map V.int)[m]? = some z → eqV z (.int x) = false := by
  induction xs with
  | nil => cases h
  | cons y ys ih =>
    by_cases e : y = x
    · subst e
      rw [List.idxOf_cons_self]
      exact ⟨Nat.succ_pos _, rfl, fun m z hm _ => absurd hm (Nat.not_lt_zero m)⟩
    · have hc : (y :: ys).idxOf x = ys.idxOf x + 1 := by
        rw [List.idxOf_cons, beq_false_of_ne e]
        rfl
      rw [hc]
      rcases List.mem_cons.mp h with q | q
      · exact absurd q.symm e
      · obtain ⟨hj, h1, h2⟩ := ih q
        refine ⟨Nat.succ_lt_succ hj, h1, fun m z hm hz => ?_⟩
        cases m with
        | zero =>
          cases hz
          show (y == x) = false
          exact beq_false_of_ne e
        | succ m => exact h2 m z (Nat.lt_of_succ_lt_succ hm) hz
def sp_is_paper (K : PySem.W.Frag) : Sp := fun vs H Q _ => ∃ x y toll n rows, vs = [x, y] ∧ Dp K H x (dCosts rows) ∧ Okc toll n rows ∧ Dp K H y (dCosts (UM.pap toll n rows)) ∧ ∀ H', Ex H H' → Q (.bl true) H'
def sp_shows_none_less (K : PySem.W.Frag) : Sp := fun vs H Q _ => ∃ x y toll n rows, vs = [x, .int toll, .int (UM.at0 (UM.top toll n rows) 0), y] ∧ Dp K H x (dCosts rows) ∧ Okc toll n rows ∧ Dp K H y (dCosts (UM.pap toll n rows)) ∧ ∀ H', Ex H H' → Q (.bl true) H'
theorem pap_rows {toll : Int} {n : Nat} {rows : List (List Int)} {i : Nat} {r : List Int} (h : (UM.pap toll n rows)[i]? = some r) : r.length = n := by
  have hi := (List.getElem?_eq_some_iff.mp h).1
  rw [UM.pap_len] at hi
  rw [UM.pap_get rows i (by omega)] at h
  rw [← Option.some.inj h, UM.top_len]
section
variable {P : Program} {w : World} {K : PySem.W.Frag} {mg : Str → Option Value} {base : Heap}
theorem sc_cheapest : FnScope ["costs", "toll", "paper", "choice", "ahead", "place", "row"] ["costs", "toll"] (defScope scheapest) := ⟨rfl, rfl, rfl, by decide +kernel, rfl, by decide +kernel, by decide +kernel⟩
theorem ok_cheapest (T : Tx fa fn K mg) : GFn P w K mg base 6 (He.fAd K dcheapest.at_) ["costs", "toll"] (sp_cheapestX K) := by
  obtain ⟨fd, F⟩ := T.says.def_ 12 (d := dcheapest) rfl
  refine ok0 F sc_cheapest (fun vs H Q E h => ?_) (fun _ _ _ _ _ _ us hl => match us, hl with | [_, _], _ => rfl) (fun cdv A outer s H vs Q E hr h => ?_)
  · obtain ⟨x, toll, n, rows, rfl, _⟩ := h
    rfl
  · obtain ⟨x, toll, n, rows, rfl, hd, o, k⟩ := h
    have n1 := o.g.n1
    have n5 := o.n2
    have hm := o.m
    refine ⟨_, (pss_cons (ps_expr (gc (ok_need_costs T) (hr.mono (by decide)) (T.g 5) pn (pa_cons (pv 0) (pa_cons (pv 1) pa_nil))))
      (pss_cons (ps_set (i := 2) sc_cheapest.nd rfl (Or.inl rfl) (gc (ok_paper_of T) (hr.mono (by decide)) (T.g 11) pn (pa_cons (pv 0) (pa_cons (pv 1) pa_nil))))
      (pss_cons (ps_set (i := 3) sc_cheapest.nd rfl (Or.inl rfl) (pe_lst pa_nil))
      (pss_cons (ps_set (i := 4) sc_cheapest.nd rfl (Or.inl rfl) pe_int)
      (pss_cons (ps_for (by first | exact PassesOwn.never | exact passes_of rfl) rfl (pi_enumT rfl (T.b 60) (pa_cons (pv 0) pa_nil)) (gtupK K (n := 2) rfl (pgs_cons (pg_name (i := 5) sc_cheapest.nd rfl (Or.inl rfl)) (pgs_cons (pg_name (i := 6) sc_cheapest.nd rfl (Or.inl rfl)) pgs_nil))) (pss_cons (ps_set (i := 4) sc_cheapest.nd rfl (Or.inl rfl) (bmK K (pe_bm PySem.F.plainAttrs_list PySem.F.slot_list_index PySem.F.type_list_index (mIndex K) (gc (ok_by_kinds T) (hr.mono (by decide)) (T.g 10) pn (pa_cons (pv 6) (pa_cons (pe_ix (ixT K) (pv 2) (pe_op op_add (pv 5) pe_int) (fun _ _ => rfl)) (pa_cons (pv 1) (pa_cons (pv 4) pa_nil))))) (pa_cons (pe_ix (ixT K) (pe_ix (ixT K) (pv 2) (pv 5) (fun _ _ => rfl)) (pv 4) (fun _ _ => rfl)) pa_nil))))
      (pss_one (ps_expr (bmK K (pe_bm PySem.F.plainAttrs_list PySem.F.slot_list_append PySem.F.type_list_append mt_append (pv 3) (pa_cons (pv 4) pa_nil)))))))
      (pss_one (ps_ret (pe_tup (pa_cons (pe_callTy (cTup K) (by rfl) (T.b 73) (by decide +kernel) (pa_cons (pv 3) pa_nil)) (pa_cons (pe_ix (ixT K) (pe_ix (ixT K) (pv 2) pe_int (fun _ _ => rfl)) pe_int (fun _ _ => rfl)) (pa_cons (pv 2) pa_nil))))))))))), ?_⟩
    obtain ⟨a, xs, ca⟩ := cost_at hd
    have ev := ca.ev
    subst ev
    walk_at "rd"
    refine ⟨_, _, _, _, rfl, hd, o, fun H1 e1 => ?_⟩
    walk_at "rd"
    refine ⟨_, _, _, _, rfl, dp_sb (ex_sb e1) hd, o, fun t H2 e2 hp => ?_⟩
    have e12 := Evl.Ex.trans e1 e2
    obtain ⟨_, ps, et, htp, hps⟩ := costs_rws hp
    cases et
    walk_at "rd"
    refine ⟨Nat.zero_le _, fun L hL => ?_⟩
    have hL0 := ex_free e12 hL
    have e3 := ex_newT (o := .lst []) e12 hL
    walk_at "rd"
    refine ⟨a, xs, rfl, (ex_sb e3).t _ _ ca.sq, ?_⟩
    refine forW (walk_enumT (K := K) (a := a) (xs := xs)) (fun i σ H' => ∃ u v, σ = [some (.ref a), some (.int toll), some (.ref t), some (.ref L), some (.int ((UM.bk1 toll n rows i : Nat) : Int)), u, v] ∧ Ex H2 H' ∧ H' L = some (.lst (vNats ((List.range i).map fun p => UM.bk1 toll n rows (p + 1)))))
      ⟨_, _, rfl, ex_new hL, upd_same⟩ (fun i σ H' _ p => ?_) (fun i z σ H3 H4 hi p y => ?_) (fun σ H' p => ?_)
    · obtain ⟨u, v, rfl, e6, _⟩ := p
      exact (ex_sb (Evl.Ex.trans e12 e6)).t _ _ ca.sq
    · obtain ⟨u, v, rfl, e6, hv⟩ := p
      have hvl : (vNats ((List.range i).map fun p => UM.bk1 toll n rows (p + 1))).length = i := by rw [List.length_map, List.length_map, List.length_range]
      have hb := UM.bk1_lt (toll := toll) (rows := rows) n1 i (by
        have := ca.len
        omega)
      obtain ⟨T', y1, r, rfl, hT, rfl, hy1, hr1⟩ := y
      cases hy1
      have hmi : i < rows.length := by rw [← ca.len]; exact hi
      obtain ⟨br, hbr, hsr⟩ := ca.get i _ (row_get hmi)
      have er : r = .ref br := Option.some.inj (hr1.symm.trans hbr)
      subst er
      obtain ⟨b1, hb1, hs1⟩ := hps.get (i + 1) _ (UM.pap_get rows (i + 1) (by omega))
      obtain ⟨b0, hb0, hs0⟩ := hps.get i _ (UM.pap_get rows i (by omega))
      refine r_pair (SqT.of upd_same) ?_
      have e7 := ex_newT (o := .tup [V.int (i : Int), V.ref br]) e6 hT
      have t7 : ∀ p ys, SqT K H2 p ys → SqT K (upd H3 T' (.tup [V.int (i : Int), V.ref br])) p ys := (ex_sb e7).t
      have hv7 := (ex_new (o := .tup [V.int (i : Int), V.ref br]) hT) _ _ hv
      walk_at "rd"
      refine r_ixT (t7 _ _ htp) (atI_nat (j := i + 1) hb1) ?_
      walk_at "rd"
      refine ⟨_, _, _, n, _, _, _, rfl, (ex_sb (Evl.Ex.trans e12 e7)).t _ _ hsr, t7 _ _ hs1, o.g.len _ hmi, UM.top_len _, n5, fun D H5 hD e8 h1 => ?_⟩
      walk_at "rd"
      refine ⟨.inl ⟨rfl, _, SqL.of h1⟩, ?_⟩
      walk_at "rd"
      refine r_ixT ((ex_sb e8).t _ _ (t7 _ _ htp)) (atI_nat (j := i) hb0) ?_
      walk_at "rd"
      refine r_ixT ((ex_sb e8).t _ _ (t7 _ _ hs0)) (at_ints (by rw [UM.top_len]; exact hb)) ?_
      walk_at "rd"
      have hin := UM.best_in (toll := toll) n1 hmi hb
      obtain ⟨hj, hj1, hj2⟩ := first_idx hin
      refine ⟨D, _, _, UM.bk1 toll n rows (i + 1), _, rfl, rfl, SqL.of h1, rfl, flat_ints _, hj1, ?_, hj2, ?_⟩
      · show (_ == _) = true
        exact beq_self_eq_true _
      walk_at "rd"
      refine ⟨.inl ⟨rfl, _, SqL.of (e8 _ _ hv7)⟩, ?_⟩
      walk_at "rd"
      refine r_append (e8 _ _ hv7) (by omega) ?_
      walk_at "rd"
      refine ⟨_, _, rfl, ex_chg (Evl.Ex.trans e7 e8) hL, ?_⟩
      rw [upd_same, List.range_succ, List.map_append]
      show _ = some (HO.lst (List.map _ (_ ++ [_])))
      rw [List.map_append]
      rfl
    · obtain ⟨u, v, rfl, e6, hv⟩ := p
      have t6 : ∀ p ys, SqT K H2 p ys → SqT K H' p ys := (ex_sb e6).t
      obtain ⟨b0, hb0, hs0⟩ := hps.get 0 _ (UM.pap_get rows 0 (by omega))
      walk_at "rd"
      refine ⟨L, _, rfl, .inl ⟨SqL.of hv, fun t2 ht2 => ?_⟩⟩
      have n6 := ex_new (o := .tup (vNats ((List.range xs.length).map fun p => UM.bk1 toll n rows (p + 1)))) ht2
      walk_at "rd"
      refine r_ixT ((ex_sb n6).t _ _ (t6 _ _ htp)) (atI_nat (j := 0) hb0) ?_
      walk_at "rd"
      refine r_ixT ((ex_sb n6).t _ _ (t6 _ _ hs0)) (at_ints (k := 0) (by rw [UM.top_len]; exact n1)) ?_
      walk_at "rd"
      refine ⟨Nat.le_of_lt (small_line (by show 3 ≤ 1000000; decide)), fun z hz => ?_⟩
      have n7 := ex_new (o := .tup [V.ref t2, .int ((UM.top toll n (rows.drop 0)).getD 0 0), V.ref t]) hz
      refine k z t2 t _ (ex_newT (ex_newT (Evl.Ex.trans e12 e6) ht2) hz) upd_same ((ex_sb n7).t _ _ (SqT.of ?_)) (dp_sb (ex_sb n7) (dp_sb (ex_sb n6) (dp_sb (ex_sb e6) hp)))
      rw [upd_same, ca.len]
      rfl
theorem sc_is_paper : FnScope ["costs", "thing", "row", "one"] ["costs", "thing"] (defScope sis_paper) := ⟨rfl, rfl, rfl, by decide +kernel, rfl, by decide +kernel, by decide +kernel⟩
theorem ok_is_paper (T : Tx fa fn K mg) : GFn P w K mg base 2 (He.fAd K dis_paper.at_) ["costs", "thing"] (sp_is_paper K) := by
  obtain ⟨fd, F⟩ := T.says.def_ 13 (d := dis_paper) rfl
  refine ok0 F sc_is_paper (fun vs H Q E h => ?_) (fun _ _ _ _ _ _ us hl => match us, hl with | [_, _], _ => rfl) (fun cdv A outer s H vs Q E hr h => ?_)
  · obtain ⟨x, y, toll, n, rows, rfl, _⟩ := h
    rfl
  · obtain ⟨x, y, toll, n, rows, rfl, hx, o, hy, k⟩ := h
    have n5 := o.n2
    obtain ⟨a, xs, ca⟩ := cost_at hx
    have ev := ca.ev
    subst ev
    obtain ⟨b, ps, cb⟩ := cost_at hy
    have ev := cb.ev
    subst ev
    refine ⟨_, (pss_cons (ps_if (PW.pt (pw_or (pt_not (pt_val (isaK2 K (pe_isa isa_tuple (T.b 62) (T.b 73) (by decide +kernel) (pv 1))))) (pw_or1 (pt_cmpR op_ne (pe_callB (cLen K) (by rfl) (T.b 63) (by decide +kernel) (pa_cons (pv 1) pa_nil)) (pe_op op_add (pe_callB (cLen K) (by rfl) (T.b 63) (by decide +kernel) (pa_cons (pv 0) pa_nil)) pe_int) (nomark _))))) (pss_one (ps_ret pe_bl)) pss_nil)
      (pss_cons (ps_for (by first | exact PassesOwn.never | exact passes_of rfl) rfl (piT K (pv 1)) (pg_name (i := 2) sc_is_paper.nd rfl (Or.inl rfl)) (pss_one (ps_if (PW.pt (pw_or (pt_not (pt_val (isaK2 K (pe_isa isa_tuple (T.b 62) (T.b 73) (by decide +kernel) (pv 2))))) (pw_or (pt_cmpR op_ne (pe_callB (cLen K) (by rfl) (T.b 63) (by decide +kernel) (pa_cons (pv 2) pa_nil)) (gc (ok_how_many T) (hr.mono (by decide)) (T.g 6) pn (pa_cons (pv 0) pa_nil)) (nomark _)) (pw_or1 (pt_not (pt_val (pe_callB (cAll K rfl) (by rfl) (T.b 58) (by decide +kernel) (pa_cons (pe_lc (own := [("one", 3)]) (g := gName 3) (tt := tYes) rfl sc_is_paper.nd (piT K (pv 2)) (blkOk_by (N := ["costs", "thing", "row", "one"]) (sc := defScope sis_paper) (by decide +kernel)) (fun _ _ _ _ _ => pg_name (i := 3) sc_is_paper.nd rfl (Or.inl rfl)) (fun _ _ _ _ _ => pts_nil) (fun _ _ _ _ _ => (gc (ok_is_number T) (hr.mono (by decide)) (T.g 0) pn (pa_cons (pv 3) pa_nil)))) pa_nil)))))))) (pss_one (ps_ret pe_bl)) pss_nil)))
      (pss_one (ps_ret pe_bl)))), ?_⟩
    walk_at "rd"
    refine ⟨_, hy, _, rfl, iteF ?_⟩
    walk_at "rd"
    refine ⟨b, ps, rfl, .inr cb.sq, ?_⟩
    walk_at "rd"
    refine ⟨a, xs, rfl, .inr ca.sq, ?_⟩
    walk_at "rd"
    refine r_nei ?_
    rw [cb.len, ca.len, UM.pap_len, decide_eq_true (by omega)]
    refine iteF ?_
    walk_at "rd"
    refine ⟨b, rfl, ⟨ps, cb.sq⟩, ?_⟩
    refine forW (walk_tup (K := K) (a := b) (xs := ps)) (fun i σ H' => Ex H H' ∧ ∃ u, σ = [some (.ref a), some (.ref b), u, none]) ⟨Evl.Ex.refl _, _, rfl⟩
      (fun i σ H' _ p => (ex_sb p.1).t _ _ cb.sq) (fun i z σ H3 H4 hi p y => ?_) (fun σ H' p => ?_)
    · obtain ⟨e3, u, rfl⟩ := p
      obtain ⟨rfl, hz⟩ := y
      have hip : i < (UM.pap toll n rows).length := by rw [← cb.len]; exact hi
      obtain ⟨br, hbr, hsr⟩ := cb.get i _ (List.getElem?_eq_getElem hip)
      have er : z = .ref br := Option.some.inj (hz.symm.trans hbr)
      subst er
      have hrl : ((UM.pap toll n rows)[i]).length = n := pap_rows (List.getElem?_eq_getElem hip)
      have hs3 := (ex_sb e3).t _ _ hsr
      walk_at "rd"
      refine ⟨_, dp_of_ints hs3, _, rfl, iteF ?_⟩
      walk_at "rd"
      refine ⟨br, _, rfl, .inr hs3, ?_⟩
      walk_at "rd"
      refine ⟨_, toll, n, rows, rfl, dp_sb (ex_sb e3) hx, o, fun H5 e5 => ?_⟩
      refine r_nei ?_
      rw [List.length_map, hrl, decide_eq_true rfl]
      refine iteF ?_
      walk_at "rd"
      refine lcT_map (zs := (UM.pap toll n rows)[i]) (fun _ => V.bl true) (val_var rfl) ((ex_sb e5).t _ _ hs3) (List.length_map _) (by rw [List.length_map]; omega) (fun _ => by rfl) (fun m x d hx hd H6 e6 R q => ?_) (fun D H6 hD e6 h6 => ?_)
      · rw [List.getElem?_map, hd] at hx
        cases hx
        walk_at "rd"
        exact ⟨_, _, rfl, .int _, q _ (Evl.Ex.refl _)⟩
      · walk_at "rd"
        refine ⟨D, ((UM.pap toll n rows)[i]).map fun _ => true, rfl, by rw [List.map_map]; exact SqL.of h6, ?_⟩
        have z : (((UM.pap toll n rows)[i]).map fun _ => true).all id = true := by
          rw [List.all_map, List.all_eq_true]
          exact fun _ _ => rfl
        rw [z]
        refine ⟨_, rfl, iteF ?_⟩
        walk_at "rd"
        exact ⟨Evl.Ex.trans e3 (Evl.Ex.trans e5 e6), _, rfl⟩
    · obtain ⟨e3, u, rfl⟩ := p
      walk_at "rd"
      exact k _ e3
theorem sc_shows_none_less : FnScope ["costs", "toll", "number", "paper", "place", "row", "ahead"] ["costs", "toll", "number", "paper"] (defScope sshows_none_less) := ⟨rfl, rfl, rfl, by decide +kernel, rfl, by decide +kernel, by decide +kernel⟩
theorem ok_shows_none_less (T : Tx fa fn K mg) : GFn P w K mg base 6 (He.fAd K dshows_none_less.at_) ["costs", "toll", "number", "paper"] (sp_shows_none_less K) := by
  obtain ⟨fd, F⟩ := T.says.def_ 14 (d := dshows_none_less) rfl
  refine ok0 F sc_shows_none_less (fun vs H Q E h => ?_) (fun _ _ _ _ _ _ us hl => match us, hl with | [_, _, _, _], _ => rfl) (fun cdv A outer s H vs Q E hr h => ?_)
  · obtain ⟨x, y, toll, n, rows, rfl, _⟩ := h
    rfl
  · obtain ⟨x, y, toll, n, rows, rfl, hx, o, hy, k⟩ := h
    have n1 := o.g.n1
    have n5 := o.n2
    have hm := o.m
    obtain ⟨a, xs, ca⟩ := cost_at hx
    have ev := ca.ev
    subst ev
    obtain ⟨b, ps, cb⟩ := cost_at hy
    have ev := cb.ev
    subst ev
    refine ⟨_, (pss_cons (ps_expr (gc (ok_need_costs T) (hr.mono (by decide)) (T.g 5) pn (pa_cons (pv 0) (pa_cons (pv 1) pa_nil))))
      (pss_cons (ps_if (pt_not (pt_val (gc (ok_is_number T) (hr.mono (by decide)) (T.g 0) pn (pa_cons (pv 2) pa_nil)))) (pss_one ps_never) pss_nil)
      (pss_cons (ps_if (PW.pt (pw_or (pt_not (pt_val (gc (ok_is_paper T) (hr.mono (by decide)) (T.g 13) pn (pa_cons (pv 0) (pa_cons (pv 3) pa_nil))))) (pw_or1 (pt_cmpR op_gt (pe_callB (cMax K rfl) (by rfl) (T.b 65) (by decide +kernel) (pa_cons (pe_ix (ixT K) (pv 3) (pe_un un_neg pe_int) (fun _ _ => rfl)) pa_nil)) pe_int (nomark _))))) (pss_one (ps_ret pe_bl)) pss_nil)
      (pss_cons (ps_for (by first | exact PassesOwn.never | exact passes_of rfl) rfl (pi_enumT rfl (T.b 60) (pa_cons (pv 0) pa_nil)) (gtupK K (n := 2) rfl (pgs_cons (pg_name (i := 4) sc_shows_none_less.nd rfl (Or.inl rfl)) (pgs_cons (pg_name (i := 5) sc_shows_none_less.nd rfl (Or.inl rfl)) pgs_nil))) (pss_one (ps_for (by first | exact PassesOwn.never | exact passes_of rfl) rfl (pi_range1 rfl (T.b 67) (pa_cons (pe_callB (cLen K) (by rfl) (T.b 63) (by decide +kernel) (pa_cons (pv 5) pa_nil)) pa_nil)) (pg_name (i := 6) sc_shows_none_less.nd rfl (Or.inl rfl)) (pss_one (ps_if (pt_cmpR op_gt (pe_ix (ixT K) (pe_ix (ixT K) (pv 3) (pv 4) (fun _ _ => rfl)) (pv 6) (fun _ _ => rfl)) (pe_callB (cMin K rfl) (by rfl) (T.b 66) (by decide +kernel) (pa_cons (gc (ok_by_kinds T) (hr.mono (by decide)) (T.g 10) pn (pa_cons (pv 5) (pa_cons (pe_ix (ixT K) (pv 3) (pe_op op_add (pv 4) pe_int) (fun _ _ => rfl)) (pa_cons (pv 1) (pa_cons (pv 6) pa_nil))))) pa_nil)) (nomark _)) (pss_one (ps_ret pe_bl)) pss_nil)))))
      (pss_one (ps_ret (pe_cmpR op_ge (pe_ix (ixT K) (pe_ix (ixT K) (pv 3) pe_int (fun _ _ => rfl)) pe_int (fun _ _ => rfl)) (pv 2) (nomark _)))))))), ?_⟩
    walk_at "rd"
    refine ⟨_, toll, n, rows, rfl, hx, o, fun H1 e1 => ?_⟩
    walk_at "rd"
    refine ⟨_, _, rfl, .int _, _, rfl, iteF ?_⟩
    walk_at "rd"
    refine ⟨_, _, toll, n, rows, rfl, dp_sb (ex_sb e1) hx, o, dp_sb (ex_sb e1) hy, fun H2 e2 => ⟨_, rfl, iteF ?_⟩⟩
    have e12 := Evl.Ex.trans e1 e2
    walk_at "rd"
    obtain ⟨bl, hbl, hsl⟩ := cb.get rows.length _ (UM.pap_get rows rows.length (Nat.le_refl _))
    have hlast : ps.length - 1 = rows.length := by rw [cb.len, UM.pap_len]; omega
    refine r_ixT ((ex_sb e12).t _ _ cb.sq) (atI_last' (by rw [hlast]; exact hbl)) ?_
    walk_at "rd"
    have htz : UM.top toll n (rows.drop rows.length) = List.replicate n 0 := by
      rw [List.drop_length]
      rfl
    have hne : UM.top toll n (rows.drop rows.length) ≠ [] := fun z => by
      have := UM.top_len (toll := toll) (n := n) (rows.drop rows.length)
      rw [z] at this
      have : (0 : Nat) = n := this
      omega
    refine ⟨bl, _, rfl, .inr ((ex_sb e12).t _ _ hsl), hne, ?_⟩
    walk_at "rd"
    have hmx : lmax (UM.top toll n (rows.drop rows.length)) = 0 := by
      have := lmax_mem hne
      rw [htz] at this ⊢
      exact List.eq_of_mem_replicate this
    rw [hmx]
    refine iteF ?_
    walk_at "rd"
    refine ⟨a, xs, rfl, (ex_sb e12).t _ _ ca.sq, ?_⟩
    refine forW (walk_enumT (K := K) (a := a) (xs := xs)) (fun i σ H' => Ex H H' ∧ ∃ u v w, σ = [some (.ref a), some (.int toll), some (.int (UM.at0 (UM.top toll n rows) 0)), some (.ref b), u, v, w]) ⟨e12, _, _, _, rfl⟩
      (fun i σ H' _ p => (ex_sb p.1).t _ _ ca.sq) (fun i z σ H3 H4 hi p y => ?_) (fun σ H' p => ?_)
    · obtain ⟨e3, u, v, w, rfl⟩ := p
      obtain ⟨T', y1, r, rfl, hT, rfl, hy1, hr1⟩ := y
      cases hy1
      have hmi : i < rows.length := by rw [← ca.len]; exact hi
      obtain ⟨br, hbr, hsr⟩ := ca.get i _ (row_get hmi)
      have er : r = .ref br := Option.some.inj (hr1.symm.trans hbr)
      subst er
      obtain ⟨b1, hb1, hs1⟩ := cb.get (i + 1) _ (UM.pap_get rows (i + 1) (by omega))
      obtain ⟨b0, hb0, hs0⟩ := cb.get i _ (UM.pap_get rows i (by omega))
      refine r_pair (SqT.of upd_same) ?_
      have e7 := ex_newT (o := .tup [V.int (i : Int), V.ref br]) e3 hT
      walk_at "rd"
      refine ⟨br, _, rfl, .inr ((ex_sb e7).t _ _ hsr), ?_⟩
      rw [List.length_map, o.g.len i hmi]
      walk_at "rd"
      refine ⟨_, rfl, by omega, by omega, ?_⟩
      rw [Int.toNat_natCast]
      refine forW (walk_range (lo := 0) (n := n)) (fun _ σ H' => Ex H H' ∧ ∃ w, σ = [some (.ref a), some (.int toll), some (.int (UM.at0 (UM.top toll n rows) 0)), some (.ref b), some (.int (i : Int)), some (.ref br), w]) ⟨e7, _, rfl⟩
        (fun _ _ _ _ _ => trivial) (fun j z σ H5 H6 hj p y => ?_) (fun σ H' p => ?_)
      · obtain ⟨e8, w, rfl⟩ := p
        obtain ⟨rfl, rfl⟩ := y
        have ez : (0 : Int) + (j : Int) = (j : Int) := Int.zero_add _
        show gName 6 (V.int ((0 : Int) + (j : Int))) _ _ _
        rw [ez]
        walk_at "rd"
        refine r_ixT ((ex_sb e8).t _ _ cb.sq) (atI_nat hb0) ?_
        walk_at "rd"
        refine r_ixT ((ex_sb e8).t _ _ hs0) (at_ints (by rw [UM.top_len]; exact hj)) ?_
        walk_at "rd"
        refine r_ixT ((ex_sb e8).t _ _ cb.sq) (atI_nat (j := i + 1) hb1) ?_
        walk_at "rd"
        refine ⟨_, _, _, n, _, _, _, rfl, (ex_sb e8).t _ _ hsr, (ex_sb e8).t _ _ hs1, o.g.len _ hmi, UM.top_len _, n5, fun D H9 hD e9 h9 => ?_⟩
        walk_at "rd"
        refine ⟨D, _, rfl, .inl (SqL.of h9), UM.bk_ne n1 _ _ _, ?_⟩
        walk_at "rd"
        have hv : (UM.top toll n (rows.drop i)).getD j 0 = lmin (UM.bk toll n (UM.row rows i) (UM.top toll n (rows.drop (i + 1))) j) := by
          rw [UM.top_drop hmi]
          exact UM.at0_map hj
        rw [hv, decide_eq_false (by omega)]
        refine iteF ?_
        walk_at "rd"
        exact ⟨Evl.Ex.trans e8 e9, _, rfl⟩
      · obtain ⟨e8, w, rfl⟩ := p
        walk_at "rd"
        exact ⟨e8, _, _, _, rfl⟩
    · obtain ⟨e3, u, v, w, rfl⟩ := p
      obtain ⟨b0, hb0, hs0⟩ := cb.get 0 _ (UM.pap_get rows 0 (by omega))
      walk_at "rd"
      refine r_ixT ((ex_sb e3).t _ _ cb.sq) (atI_nat (j := 0) hb0) ?_
      walk_at "rd"
      refine r_ixT ((ex_sb e3).t _ _ hs0) (at_ints (k := 0) (by rw [UM.top_len]; exact n1)) ?_
      walk_at "rd"
      have hz : decide (UM.at0 (UM.top toll n rows) 0 ≤ (UM.top toll n (rows.drop 0)).getD 0 0) = true := decide_eq_true (Int.le_refl _)
      rw [hz]
      exact k _ e3
end
end PU
/-! PGame: _law_costs. -/
namespace PU
open PySem PySem.Spec PyProof.Rows L2 Ts K96
local macro_rules | `(tactic| walk_at "rd1") => `(tactic| first
  | with_reducible refine r_seq ?_ | with_reducible refine r_ret ?_ | with_reducible refine r_asg ?_ | with_reducible refine r_drop ?_ | with_reducible refine r_ifS ?_ | with_reducible refine r_next ?_
  | (with_reducible refine r_varE ?_; refine ⟨_, rfl, ?_⟩) | with_reducible refine r_c ?_ | with_reducible refine r_op ?_ | with_reducible refine r_I0 ?_ | (with_reducible refine r_eq ?h1 ?_; (case h1 => exact rfl)) | (with_reducible refine r_ne ?h1 ?_; (case h1 => exact rfl))
  | with_reducible refine r_nil ?_ | with_reducible refine r_cons ?_ | with_reducible refine r_cb ?_ | with_reducible refine r_call ?_ | with_reducible refine r_test ?_ | with_reducible refine r_tB ?_ | with_reducible refine r_bll ?_ | with_reducible refine r_int ?_
  | with_reducible refine r_not ?_ | with_reducible refine r_and ?_ | with_reducible refine r_or ?_ | with_reducible refine r_if ?_ | with_reducible refine r_isa ?_ | with_reducible refine r_tup ?_ | with_reducible refine r_lst ?_
  | with_reducible refine r_for ?_ | with_reducible refine r_iTup ?_ | with_reducible refine r_iList ?_ | with_reducible refine r_rng1 ?_ | with_reducible refine r_rng2 ?_ | with_reducible refine r_zipA ?_ | with_reducible refine r_enT ?_ | with_reducible refine r_zipM ?_ | with_reducible refine r_bmG ?_ | with_reducible refine r_enL ?_ | with_reducible refine r_revA ?_
  | (with_reducible refine r_augE ?_; refine ⟨_, rfl, ?_⟩) | with_reducible refine r_ipI ?_ | with_reducible refine r_rAdd ?_ | with_reducible refine r_bm ?_ | with_reducible refine r_bm0 ?_ | with_reducible refine r_gn ?_ | with_reducible refine r_asgG ?_
  | with_reducible refine r_sl ?_ | with_reducible refine r_nop ?_ | with_reducible refine r_part ?_ | with_reducible refine r_chain ?_ | with_reducible refine r_un ?_ | with_reducible refine r_rU ?_ | with_reducible refine r_fldE ?_ | with_reducible refine r_sfld ?_ | with_reducible refine r_sfldaug ?_ | with_reducible refine r_lstRg ?_ | with_reducible refine r_rg1 ?_ | with_reducible refine r_dget ?_ | with_reducible refine r_dput ?_ | with_reducible refine r_disp ?_ | with_reducible refine r_gsub ?_ | with_reducible refine r_pairC ?_ | with_reducible refine r_pairN ?_ | with_reducible refine r_meth ?_ | with_reducible refine r_make ?_ | with_reducible refine iteT ?_ | with_reducible refine iteF ?_)
local macro_rules | `(tactic| walk_at "rd") => `(tactic| repeat walk_at "rd1")

/-- what the law draws -/
structure Drawn (most : Nat) (n : Nat) (rows : List (List Int)) : Prop where
  n1 : 1 ≤ n
  n5 : n ≤ 5
  m : rows.length ≤ most
  r : ∀ r ∈ rows, RowIs n r
  none : rows = [] → n = 1
theorem Drawn.okc {toll : Int} {most n : Nat} {rows : List (List Int)} (d : Drawn most n rows) (hm : most ≤ 120) (t1 : 1 ≤ toll) (t2 : toll ≤ 1000) : Okc toll n rows := by
  have hlen : ∀ p, p < rows.length → (UM.row rows p).length = n := fun p hp => (d.r _ (row_mem hp)).1
  refine ⟨⟨t1, d.n1, hlen, fun p hp k hk => ?_⟩, t2, d.n5, Nat.le_trans d.m hm, fun r hr => (d.r r hr).2, d.none⟩
  have hlen' := hlen p hp
  unfold UM.at0
  rw [List.getD_eq_getElem?_getD, List.getElem?_eq_getElem (by omega)]
  exact ((d.r _ (row_mem hp)).2 _ (List.getElem_mem _)).1
theorem ints_of : ∀ {us : List V}, (∀ (m : Nat) (v : V), us[m]? = some v → ∃ x, v = V.int x ∧ 1 ≤ x ∧ x ≤ 1000000) → ∃ r : List Int, us = r.map V.int ∧ ∀ x ∈ r, 1 ≤ x ∧ x ≤ 1000000
  | [], _ => ⟨[], rfl, fun x m => (nomatch m)⟩
  | u :: us, h => by
    obtain ⟨x, rfl, hx⟩ := h 0 u rfl
    obtain ⟨r, e, hr⟩ := ints_of (us := us) fun m v e => h (m + 1) v e
    refine ⟨x :: r, by rw [e]; rfl, fun y hy => ?_⟩
    rcases List.mem_cons.mp hy with q | q
    · rw [q]
      exact hx
    · exact hr y q
def sp_law_costs (K : PySem.W.Frag) : Sp := fun vs H Q _ => ∃ (s c : Addr) (ns : List Int) (most : Nat), vs = [.ref s, .int most] ∧ most ≤ 120 ∧ StAt K H s c ns ∧
  ∀ H' x n rows, Kp [s] H H' → DsAt H' s c → Dp K H' x (dCosts rows) → Drawn most n rows → Q x H'
section
variable {P : Program} {w : World} {K : PySem.W.Frag} {mg : Str → Option Value} {base : Heap}
end
end PU
/-! PDraw96: the draws of k96. -/
namespace PU
open PySem PySem.Spec PyProof.Rows L2 Ts K96
local macro_rules | `(tactic| walk_at "rd1") => `(tactic| first
  | with_reducible refine r_seq ?_ | with_reducible refine r_ret ?_ | with_reducible refine r_asg ?_ | with_reducible refine r_drop ?_ | with_reducible refine r_ifS ?_ | with_reducible refine r_next ?_
  | (with_reducible refine r_varE ?_; refine ⟨_, rfl, ?_⟩) | with_reducible refine r_c ?_ | with_reducible refine r_op ?_ | with_reducible refine r_I0 ?_ | (with_reducible refine r_eq ?h1 ?_; (case h1 => exact rfl)) | (with_reducible refine r_ne ?h1 ?_; (case h1 => exact rfl))
  | with_reducible refine r_nil ?_ | with_reducible refine r_cons ?_ | with_reducible refine r_cb ?_ | with_reducible refine r_call ?_ | with_reducible refine r_test ?_ | with_reducible refine r_tB ?_ | with_reducible refine r_bll ?_ | with_reducible refine r_int ?_
  | with_reducible refine r_not ?_ | with_reducible refine r_and ?_ | with_reducible refine r_or ?_ | with_reducible refine r_if ?_ | with_reducible refine r_isa ?_ | with_reducible refine r_tup ?_ | with_reducible refine r_lst ?_
  | with_reducible refine r_for ?_ | with_reducible refine r_iTup ?_ | with_reducible refine r_iList ?_ | with_reducible refine r_rng1 ?_ | with_reducible refine r_rng2 ?_ | with_reducible refine r_zipA ?_ | with_reducible refine r_enT ?_ | with_reducible refine r_zipM ?_ | with_reducible refine r_bmG ?_ | with_reducible refine r_enL ?_ | with_reducible refine r_revA ?_
  | (with_reducible refine r_augE ?_; refine ⟨_, rfl, ?_⟩) | with_reducible refine r_ipI ?_ | with_reducible refine r_rAdd ?_ | with_reducible refine r_bm ?_ | with_reducible refine r_bm0 ?_ | with_reducible refine r_gn ?_ | with_reducible refine r_asgG ?_
  | with_reducible refine r_sl ?_ | with_reducible refine r_nop ?_ | with_reducible refine r_part ?_ | with_reducible refine r_chain ?_ | with_reducible refine r_un ?_ | with_reducible refine r_rU ?_ | with_reducible refine r_fldE ?_ | with_reducible refine r_sfld ?_ | with_reducible refine r_sfldaug ?_ | with_reducible refine r_lstRg ?_ | with_reducible refine r_rg1 ?_ | with_reducible refine r_dget ?_ | with_reducible refine r_dput ?_ | with_reducible refine r_disp ?_ | with_reducible refine r_gsub ?_ | with_reducible refine r_pairC ?_ | with_reducible refine r_pairN ?_ | with_reducible refine r_meth ?_ | with_reducible refine r_make ?_ | with_reducible refine iteT ?_ | with_reducible refine iteF ?_)
local macro_rules | `(tactic| walk_at "rd") => `(tactic| repeat walk_at "rd1")

def sp_law_number (K : PySem.W.Frag) : Sp := fun vs H Q _ => ∃ (s c : Addr) (ns : List Int) (sort place kind : Nat), vs = [.ref s, .int sort, .int place, .int kind] ∧ StAt K H s c ns ∧
  ∀ H' x, Kp [s] H H' → DsAt H' s c → 1 ≤ x → x ≤ 1000000 → Q (.int x) H'
def sp_law_size (K : PySem.W.Frag) : Sp := fun vs H Q _ => ∃ (s c : Addr) (ns : List Int) (bound : Nat), vs = [.ref s, .int bound] ∧ bound ≤ 120 ∧ StAt K H s c ns ∧
  ∀ H' (v : Nat), Kp [s] H H' → DsAt H' s c → v ≤ bound → Q (.int (v : Int)) H'
/-- tuples without a dict of their own, all -/
def Pls (H : Hp) (vs : List V) : Prop := ∀ v ∈ vs, ∃ b, v = .ref b ∧ PlT H b
theorem Pls.map {H H' : Hp} {vs : List V} (h : Pls H vs) (t : ∀ p, PlT H p → PlT H' p) : Pls H' vs := fun v m => by
  obtain ⟨b, e, hb⟩ := h v m
  exact ⟨b, e, t b hb⟩
theorem Pls.snoc {H : Hp} {vs : List V} {b : Addr} (h : Pls H vs) (hb : PlT H b) : Pls H (vs ++ [.ref b]) := fun v m => by
  rcases List.mem_append.mp m with q | q
  · exact h v q
  · exact ⟨b, List.mem_singleton.mp q, hb⟩
theorem Pls.nil {H : Hp} : Pls H [] := fun _ m => nomatch m
theorem plt_kp {H H' : Hp} {L p : Addr} {xs : List V} (k : Kp [L] H H') (hL : H L = some (.lst xs)) (h : PlT H p) : PlT H' p := h.kp k hL fun _ _ e => nomatch e
theorem plt_new {H : Hp} {p : Addr} {o : Obj} {xs : List V} (hd : o.dict = none) : PlT (upd H p (.frz o (.tup xs))) p := ⟨o, xs, upd_same, hd⟩
theorem DsAt.pl {H H' : Hp} {s c : Addr} (d : DsAt H s c) (k : Kp [s] H H') {p : Addr} (h : PlT H p) : PlT H' p := by
  obtain ⟨a, r, t, m, e⟩ := d
  exact h.kp k e fun _ _ e => nomatch e
def sp_law_costs96 (K : PySem.W.Frag) : Sp := fun vs H Q _ => ∃ (s c : Addr) (ns : List Int) (many size : Nat), vs = [.ref s, .int many, .int size] ∧ 1 ≤ many ∧ many ≤ 5 ∧ size ≤ 120 ∧ StAt K H s c ns ∧
  ∀ H' t vs rows, Kp [s] H H' → DsAt H' s c → H' t = some (.tup vs) → Rws K H' vs rows → Pls H' vs → rows.length = size → (∀ r ∈ rows, RowIs many r) → Q (.ref t) H'
def sp_law_toll96 (K : PySem.W.Frag) : Sp := fun vs H Q _ => ∃ s c ns, vs = [.ref s] ∧ StAt K H s c ns ∧ ∀ H' x, Kp [s] H H' → DsAt H' s c → 1 ≤ x → x ≤ 1000 → Q (.int x) H'
section
variable {P : Program} {w : World} {K : PySem.W.Frag} {mg : Str → Option Value} {base : Heap}
theorem sc_law_number : FnScope ["_law_state", "_law_sort", "_law_place", "_law_kind"] ["_law_state", "_law_sort", "_law_place", "_law_kind"] (defScope slaw_number) := ⟨rfl, rfl, rfl, by decide +kernel, rfl, by decide +kernel, by decide +kernel⟩
theorem ok_law_number (T : Tx fa fn K mg) : GFn P w K mg base 3 (He.fAd K dlaw_number.at_) ["_law_state", "_law_sort", "_law_place", "_law_kind"] (sp_law_number K) := by
  obtain ⟨fd, F⟩ := T.says.def_ 22 (d := dlaw_number) rfl
  refine ok0 F sc_law_number (fun vs H Q E h => ?_) (fun _ _ _ _ _ _ us hl => match us, hl with | [_, _, _, _], _ => rfl) (fun cdv A outer s H vs Q E hr h => ?_)
  · obtain ⟨s, c, ns, sort, place, kind, rfl, _⟩ := h
    rfl
  · obtain ⟨st, c, ns, sort, place, kind, rfl, hst, k⟩ := h
    refine ⟨_, (pss_cons (ps_if (pt_cmpR op_eq (pv 1) pe_int (nomark _)) (pss_one (ps_ret (pe_op op_add pe_int (gc (ok_law_take T) (hr.mono (by decide)) (T.g 20) pn (pa_cons (pv 0) (pa_cons pe_int pa_nil)))))) pss_nil)
      (pss_cons (ps_if (pt_cmpR op_eq (pv 1) pe_int (nomark _)) (pss_one (ps_ret (pe_op op_add pe_int (gc (ok_law_take T) (hr.mono (by decide)) (T.g 20) pn (pa_cons (pv 0) (pa_cons pe_int pa_nil)))))) pss_nil)
      (pss_cons (ps_if (pt_cmpR op_eq (pv 1) pe_int (nomark _)) (pss_one (ps_ret (pe_op op_add pe_int (gc (ok_law_take T) (hr.mono (by decide)) (T.g 20) pn (pa_cons (pv 0) (pa_cons pe_int pa_nil)))))) pss_nil)
      (pss_cons (ps_if (pt_cmpR op_eq (pv 1) pe_int (nomark _)) (pss_one (ps_ret (gc (ok_law_pick T) (hr.mono (by decide)) (T.g 21) pn (pa_cons (pv 0) (pa_cons (pe_lst (pa_cons pe_int (pa_cons pe_int (pa_cons pe_int (pa_cons pe_int (pa_cons pe_int (pa_cons pe_int pa_nil))))))) pa_nil))))) pss_nil)
      (pss_one (ps_ret (pe_op op_add (pe_op op_add pe_int (gc (ok_law_take T) (hr.mono (by decide)) (T.g 20) pn (pa_cons (pv 0) (pa_cons pe_int pa_nil)))) (pe_op op_mul pe_int (pe_callTy call_int1 (by rfl) (T.b 61) (by decide +kernel) (pa_cons (pe_cmpR op_gt (pe_op op_mod (pe_op op_add (pe_op op_fdiv (pv 2) pe_int) (pv 3)) pe_int) pe_int (nomark _)) pa_nil)))))))))), ?_⟩
    walk_at "rd"
    refine r_eqi (ifB (fun b1 => ?_) (fun b1 => ?_))
    · walk_at "rd"
      refine ⟨st, c, ns, _, rfl, by decide, by decide, hst, fun H1 v k1 d1 a1 a2 => ?_⟩
      walk_at "rd"
      refine k _ _ k1 d1 ?_ ?_ <;> omega
    walk_at "rd"
    refine r_eqi (ifB (fun b2 => ?_) (fun b2 => ?_))
    · walk_at "rd"
      refine ⟨st, c, ns, _, rfl, by decide, by decide, hst, fun H1 v k1 d1 a1 a2 => ?_⟩
      walk_at "rd"
      refine k _ _ k1 d1 ?_ ?_ <;> omega
    walk_at "rd"
    refine r_eqi (ifB (fun b3 => ?_) (fun b3 => ?_))
    · walk_at "rd"
      refine ⟨st, c, ns, _, rfl, by decide, by decide, hst, fun H1 v k1 d1 a1 a2 => ?_⟩
      walk_at "rd"
      refine k _ _ k1 d1 ?_ ?_ <;> omega
    walk_at "rd"
    refine r_eqi (ifB (fun b4 => ?_) (fun b4 => ?_))
    · walk_at "rd"
      refine ⟨Nat.le_of_lt (small_line (by show 6 ≤ 1000000; decide)), fun p hp => ?_⟩
      walk_at "rd"
      refine ⟨st, c, ns, p, [1, 1000000, 2, 999999, 1000, 1001], rfl, hst.ex (ex_new hp), SqL.of upd_same, by simp, by decide, fun H3 x k3 d3 hx => ?_⟩
      refine k _ _ ((Kp.new hp).trans k3) d3 ?_ ?_
      all_goals
        simp only [List.mem_cons, List.not_mem_nil, or_false] at hx
        omega
    walk_at "rd"
    refine ⟨st, c, ns, _, rfl, by decide, by decide, hst, fun H1 v k1 d1 a1 a2 => ?_⟩
    walk_at "rd"
    refine r_I ⟨by decide, by decide⟩ ?_
    walk_at "rd"
    refine r_I (by decide) ?_
    walk_at "rd"
    refine .inr ⟨_, rfl, ?_⟩
    refine r_I (.inl ⟨by decide, by decide⟩) ?_
    walk_at "rd"
    refine k _ _ k1 d1 ?_ ?_
    · split <;> omega
    · split <;> omega
theorem sc_law_size : FnScope ["_law_state", "_law_bound", "_law_some"] ["_law_state", "_law_bound"] (defScope slaw_size) := ⟨rfl, rfl, rfl, by decide +kernel, rfl, by decide +kernel, by decide +kernel⟩
theorem ok_law_size (T : Tx fa fn K mg) : GFn P w K mg base 3 (He.fAd K dlaw_size.at_) ["_law_state", "_law_bound"] (sp_law_size K) := by
  obtain ⟨fd, F⟩ := T.says.def_ 23 (d := dlaw_size) rfl
  refine ok0 F sc_law_size (fun vs H Q E h => ?_) (fun _ _ _ _ _ _ us hl => match us, hl with | [_, _], _ => rfl) (fun cdv A outer s H vs Q E hr h => ?_)
  · obtain ⟨s, c, ns, bound, rfl, _⟩ := h
    rfl
  · obtain ⟨st, c, ns, bound, rfl, hb, hst, k⟩ := h
    refine ⟨_, (pss_cons (ps_set (i := 2) sc_law_size.nd rfl (Or.inl rfl) (pe_lst (pa_cons (gc (ok_law_take T) (hr.mono (by decide)) (T.g 20) pn (pa_cons (pv 0) (pa_cons pe_int pa_nil))) (pa_cons (gc (ok_law_take T) (hr.mono (by decide)) (T.g 20) pn (pa_cons (pv 0) (pa_cons pe_int pa_nil))) (pa_cons (gc (ok_law_take T) (hr.mono (by decide)) (T.g 20) pn (pa_cons (pv 0) (pa_cons (pe_op op_add (pv 1) pe_int) pa_nil))) (pa_cons pe_int (pa_cons (pv 1) (pa_cons pe_int pa_nil))))))))
      (pss_one (ps_ret (pe_op op_mod (gc (ok_law_pick T) (hr.mono (by decide)) (T.g 21) pn (pa_cons (pv 0) (pa_cons (pv 2) pa_nil))) (pe_op op_add (pv 1) pe_int))))), ?_⟩
    walk_at "rd"
    refine ⟨st, c, ns, _, rfl, by decide, by decide, hst, fun H1 v1 k1 d1 a1 b1 => ?_⟩
    have s1 := hst.step k1 d1
    walk_at "rd"
    refine ⟨st, c, ns, _, rfl, by decide, by decide, s1, fun H2 v2 k2 d2 a2 b2 => ?_⟩
    have s2 := s1.step k2 d2
    walk_at "rd"
    refine ⟨st, c, ns, _, rfl, by omega, by omega, s2, fun H3 v3 k3 d3 a3 b3 => ?_⟩
    have s3 := s2.step k3 d3
    walk_at "rd"
    refine ⟨Nat.le_of_lt (small_line (by show 6 ≤ 1000000; decide)), fun p hp => ?_⟩
    walk_at "rd"
    refine ⟨st, c, ns, p, [v1, v2, v3, 0, (bound : Int), 9], rfl, s3.ex (ex_new hp), SqL.of upd_same, by simp, by show 6 < 1000; decide, fun H4 x k4 d4 hx => ?_⟩
    walk_at "rd"
    refine r_I (by omega) ?_
    have n0 : 0 ≤ x % ((bound : Int) + 1) := Int.emod_nonneg _ (by omega)
    have n1 : x % ((bound : Int) + 1) < (bound : Int) + 1 := Int.emod_lt_of_pos _ (by omega)
    obtain ⟨j, hj⟩ := Int.eq_ofNat_of_zero_le n0
    rw [hj]
    exact k _ j ((((k1.trans k2).trans k3).newT hp).trans k4) d4 (by omega)
theorem sc_law_toll : FnScope ["_law_state"] ["_law_state"] (defScope slaw_toll) := ⟨rfl, rfl, rfl, by decide +kernel, rfl, by decide +kernel, by decide +kernel⟩
theorem ok_law_toll (T : Tx fa fn K mg) : GFn P w K mg base 3 (He.fAd K dlaw_toll.at_) ["_law_state"] (sp_law_toll96 K) := by
  obtain ⟨fd, F⟩ := T.says.def_ 25 (d := dlaw_toll) rfl
  refine ok0 F sc_law_toll (fun vs H Q E h => ?_) (fun _ _ _ _ _ _ us hl => match us, hl with | [_], _ => rfl) (fun cdv A outer s H vs Q E hr h => ?_)
  · obtain ⟨s, c, ns, rfl, _⟩ := h
    rfl
  · obtain ⟨st, c, ns, rfl, hst, k⟩ := h
    refine ⟨_, (pss_one (ps_ret (gc (ok_law_pick T) (hr.mono (by decide)) (T.g 21) pn (pa_cons (pv 0) (pa_cons (pe_lst (pa_cons pe_int (pa_cons pe_int (pa_cons (pe_op op_add pe_int (gc (ok_law_take T) (hr.mono (by decide)) (T.g 20) pn (pa_cons (pv 0) (pa_cons pe_int pa_nil)))) (pa_cons (pe_op op_add pe_int (gc (ok_law_take T) (hr.mono (by decide)) (T.g 20) pn (pa_cons (pv 0) (pa_cons pe_int pa_nil)))) (pa_cons pe_int (pa_cons pe_int pa_nil))))))) pa_nil))))), ?_⟩
    walk_at "rd"
    refine ⟨st, c, ns, _, rfl, by decide, by decide, hst, fun H1 v1 k1 d1 a1 b1 => ?_⟩
    have s1 := hst.step k1 d1
    walk_at "rd"
    refine ⟨st, c, ns, _, rfl, by decide, by decide, s1, fun H2 v2 k2 d2 a2 b2 => ?_⟩
    have s2 := s1.step k2 d2
    walk_at "rd"
    refine ⟨Nat.le_of_lt (small_line (by show 6 ≤ 1000000; decide)), fun p hp => ?_⟩
    walk_at "rd"
    refine ⟨st, c, ns, p, [1, 2, 1 + v1, 1 + v2, 30, 1000], rfl, s2.ex (ex_new hp), SqL.of upd_same, by simp, by show 6 < 1000; decide, fun H3 x k3 d3 hx => ?_⟩
    refine k _ _ ((((k1.trans k2)).newT hp).trans k3) d3 ?_ ?_
    all_goals
      simp only [List.mem_cons, List.not_mem_nil, or_false] at hx
      omega
theorem sc_law_costs : FnScope ["_law_state", "_law_many", "_law_size_here", "_law_sort", "_law_rows", "_law_place", "_law_kind"] ["_law_state", "_law_many", "_law_size_here"] (defScope slaw_costs) := ⟨rfl, rfl, rfl, by decide +kernel, rfl, by decide +kernel, by decide +kernel⟩
theorem ok_law_costs (T : Tx fa fn K mg) : GFn P w K mg base 4 (He.fAd K dlaw_costs.at_) ["_law_state", "_law_many", "_law_size_here"] (sp_law_costs96 K) := by
  obtain ⟨fd, F⟩ := T.says.def_ 24 (d := dlaw_costs) rfl
  refine ok0 F sc_law_costs (fun vs H Q E h => ?_) (fun _ _ _ _ _ _ us hl => match us, hl with | [_, _, _], _ => rfl) (fun cdv A outer s H vs Q E hr h => ?_)
  · obtain ⟨s, c, ns, many, size, rfl, _⟩ := h
    rfl
  · obtain ⟨st, c, ns, many, size, rfl, m1, m5, hsz, hst, k⟩ := h
    refine ⟨_, (pss_cons (ps_set (i := 3) sc_law_costs.nd rfl (Or.inr rfl) (gc (ok_law_take T) (hr.mono (by decide)) (T.g 20) pn (pa_cons (pv 0) (pa_cons pe_int pa_nil))))
      (pss_cons (ps_set (i := 4) sc_law_costs.nd rfl (Or.inl rfl) (pe_lst pa_nil))
      (pss_cons (ps_for (by first | exact PassesOwn.never | exact passes_of rfl) rfl (pi_range1 rfl (T.b 67) (pa_cons (pv 2) pa_nil)) (pg_name (i := 5) sc_law_costs.nd rfl (Or.inr rfl)) (pss_one (ps_expr (bmK K (pe_bm PySem.F.plainAttrs_list PySem.F.slot_list_append PySem.F.type_list_append mt_append (pv 4) (pa_cons (pe_callTy (cTupF K) (by rfl) (T.b 73) (by decide +kernel) (pa_cons (pe_lc (own := [("_law_kind", 6)]) (g := gName 6) (tt := tYes) rfl sc_law_costs.nd (pi_range1 rfl (T.b 67) (pa_cons (pv 1) pa_nil)) (blkOk_by (N := ["_law_state", "_law_many", "_law_size_here", "_law_sort", "_law_rows", "_law_place", "_law_kind"]) (sc := defScope slaw_costs) (by decide +kernel)) (fun _ _ _ _ _ => pg_name (i := 6) sc_law_costs.nd rfl (Or.inl rfl)) (fun _ _ _ _ _ => pts_nil) (fun _ _ _ _ _ => (gc (ok_law_number T) (hr.mono (by decide)) (T.g 22) pn (pa_cons (pv 0) (pa_cons (pv 3) (pa_cons (pv 5) (pa_cons (pv 6) pa_nil))))))) pa_nil)) pa_nil))))))
      (pss_one (ps_ret (pe_callTy (cTup K) (by rfl) (T.b 73) (by decide +kernel) (pa_cons (pv 4) pa_nil))))))), ?_⟩
    walk_at "rd"
    refine ⟨st, c, ns, _, rfl, by decide, by decide, hst, fun H1 v1 k1 d1 a1 b1 => ?_⟩
    obtain ⟨j1, rfl⟩ := Int.eq_ofNat_of_zero_le a1
    have s1 := hst.step k1 d1
    walk_at "rd"
    refine ⟨Nat.zero_le _, fun L hL => ?_⟩
    have hs0 := hst.d.ne
    obtain ⟨a3', r3', t3', o3', h3'⟩ := id hst.d
    have hL0 : H L = none := by
      obtain ⟨_, _, _, _, h2⟩ := s1.d
      exact k1.free1 h2 hL
    have hLst : L ∉ [st] := fun m => by
      rw [List.mem_singleton.mp m, h3'] at hL0
      cases hL0
    walk_at "rd"
    refine ⟨_, rfl, by omega, by omega, ?_⟩
    rw [Int.toNat_natCast]
    refine forW (walk_range (lo := 0) (n := size)) (fun i σ H' => ∃ u, σ = [some (.ref st), some (.int (many : Int)), some (.int (size : Int)), some (.int (j1 : Int)), some (.ref L), u, none] ∧ Kp [st] H H' ∧ DsAt H' st c ∧
        ∃ vs rows, H' L = some (.lst vs) ∧ Rws K H' vs rows ∧ Pls H' vs ∧ rows.length = i ∧ ∀ r ∈ rows, RowIs many r)
      ⟨_, rfl, k1.newT hL, d1.upd d1.ne hL, [], [], upd_same, ⟨rfl, fun i r e => by cases e⟩, Pls.nil, rfl, fun r m => by cases m⟩ (fun _ _ _ _ _ => trivial) (fun i z σ H4 H5 hi p y => ?_) (fun σ H' p => ?_)
    · obtain ⟨u, rfl, kp, d4, vs, rows, hv, hw4, hp4, hlen, hri⟩ := p
      obtain ⟨rfl, rfl⟩ := y
      have ez : (0 : Int) + (i : Int) = (i : Int) := Int.zero_add _
      show gName 5 (V.int ((0 : Int) + (i : Int))) _ _ _
      rw [ez]
      have s4 := hst.step kp d4
      walk_at "rd"
      refine ⟨.inl ⟨rfl, _, SqL.of hv⟩, ?_⟩
      walk_at "rd"
      refine lcRK (n := many) (L := [st]) (fun H => DsAt H st c) (fun _ v => ∃ x, v = .int x ∧ 1 ≤ x ∧ x ≤ 1000000) (fun b m => by rw [List.mem_singleton.mp m]; exact d4.ne) (fun H' D o hD d => d.upd d4.ne hD) d4 (by omega) (val_var rfl) (fun _ => by rfl)
        (fun m hm H6 k6 d6 R q => ?_) (fun D H6 us hD k6 d6 hus hlus hous => ?_)
      · walk_at "rd"
        refine ⟨st, c, ns, j1, i, m, rfl, s4.step k6 d6, fun H7 x k7 d7 x0 x1 => q _ _ k7 d7 ⟨x, rfl, x0, x1⟩⟩
      obtain ⟨r, rfl, hr⟩ := ints_of hous
      rw [List.length_map] at hlus
      have hvL : H6 L = some (.lst vs) := k6 L _ hv hLst
      walk_at "rd"
      refine ⟨D, _, rfl, SqL.of hus, fun t o ht ho => ?_⟩
      have n8 := ex_new (o := .frz o (.tup (r.map V.int))) ht
      have hL8 := n8 _ _ hvL
      walk_at "rd"
      refine r_append hL8 (by rw [hw4.len]; omega) ?_
      walk_at "rd"
      refine ⟨_, rfl, ((kp.trans k6).newT ht).chg hL0, (d6.ex n8).upd hs0 hL0, _, rows ++ [r], upd_same, ?_, ?_, by simp [hlen], fun q hq => ?_⟩
      · have hwx := hw4.map (d4.kp (K := K) k6).t
        exact Rws.snoc (hwx.map fun p ys h => sqt_kp kp_self hL8 ((ex_sb n8).t _ _ h)) (sqt_kp kp_self hL8 (sqt_frz upd_same))
      · exact Pls.snoc (hp4.map fun p h => plt_kp kp_self hL8 ((d4.pl k6 h).ex n8)) (plt_kp kp_self hL8 (plt_new ho))
      · rcases List.mem_append.mp hq with z | z
        · exact hri q z
        · rw [List.mem_singleton.mp z]
          exact ⟨hlus, hr⟩
    · obtain ⟨u, rfl, kp, d4, vs, rows, hv, hw4, hp4, hlen, hri⟩ := p
      walk_at "rd"
      refine ⟨L, vs, rfl, .inl ⟨SqL.of hv, fun t ht => ?_⟩⟩
      have n8 := ex_new (o := .tup vs) ht
      exact k _ _ _ rows (kp.newT ht) (d4.ex n8) upd_same (hw4.map fun p ys h => (ex_sb n8).t _ _ h) (hp4.map fun p h => h.ex n8) hlen hri
theorem sc_law_dear : FnScope ["_law_state", "_law_many", "_law_size_here", "_law_rows", "_law_ahead", "_law_place", "_law_dear_here", "_law_row", "_law_kind"] ["_law_state", "_law_many", "_law_size_here"] (defScope slaw_dear) := ⟨rfl, rfl, rfl, by decide +kernel, rfl, by decide +kernel, by decide +kernel⟩
theorem ok_law_dear (T : Tx fa fn K mg) : GFn P w K mg base 2 (He.fAd K dlaw_dear.at_) ["_law_state", "_law_many", "_law_size_here"] (sp_law_costs96 K) := by
  obtain ⟨fd, F⟩ := T.says.def_ 27 (d := dlaw_dear) rfl
  refine ok0 F sc_law_dear (fun vs H Q E h => ?_) (fun _ _ _ _ _ _ us hl => match us, hl with | [_, _, _], _ => rfl) (fun cdv A outer s H vs Q E hr h => ?_)
  · obtain ⟨s, c, ns, many, size, rfl, _⟩ := h
    rfl
  · obtain ⟨st, c, ns, many, size, rfl, m1, m5, hsz, hst, k⟩ := h
    refine ⟨_, (pss_cons (ps_set (i := 3) sc_law_dear.nd rfl (Or.inl rfl) (pe_lst pa_nil))
      (pss_cons (ps_set (i := 4) sc_law_dear.nd rfl (Or.inl rfl) pe_int)
      (pss_cons (ps_for (by first | exact PassesOwn.never | exact passes_of rfl) rfl (pi_range1 rfl (T.b 67) (pa_cons (pv 2) pa_nil)) (pg_name (i := 5) sc_law_dear.nd rfl (Or.inl rfl)) (pss_cons (ps_set (i := 6) sc_law_dear.nd rfl (Or.inl rfl) (pe_op op_add pe_int (gc (ok_law_take T) (hr.mono (by decide)) (T.g 20) pn (pa_cons (pv 0) (pa_cons pe_int pa_nil)))))
      (pss_cons (ps_setLc (i := 7) (own := [("_law_kind", 8)]) (g := gName 8) (tt := tYes) rfl sc_law_dear.nd rfl rfl (sw_true rfl rfl rfl (by decide +kernel)) (pi_range1 rfl (T.b 67) (pa_cons (pv 1) pa_nil)) (blkOk_by (N := ["_law_state", "_law_many", "_law_size_here", "_law_rows", "_law_ahead", "_law_place", "_law_dear_here", "_law_row", "_law_kind"]) (sc := defScope slaw_dear) (by decide +kernel)) (fun _ _ _ _ _ => pg_name (i := 8) sc_law_dear.nd rfl (Or.inl rfl)) (fun _ _ _ _ _ => pts_nil) (fun _ _ _ _ _ => (pe_op op_add pe_int (gc (ok_law_take T) (hr.mono (by decide)) (T.g 20) pn (pa_cons (pv 0) (pa_cons pe_int pa_nil))))))
      (pss_cons (ps_asg (pv 6) (pg_sub (pv 7) (pv 4) set_list))
      (pss_cons (ps_expr (bmK K (pe_bm PySem.F.plainAttrs_list PySem.F.slot_list_append PySem.F.type_list_append mt_append (pv 3) (pa_cons (pe_callTy (cTupF K) (by rfl) (T.b 73) (by decide +kernel) (pa_cons (pv 7) pa_nil)) pa_nil))))
      (pss_cons (ps_set (i := 4) sc_law_dear.nd rfl (Or.inl rfl) (bmK K (pe_bm PySem.F.plainAttrs_list PySem.F.slot_list_index PySem.F.type_list_index (mIndex K) (pv 7) (pa_cons (pe_callB (cMin K rfl) (by rfl) (T.b 66) (by decide +kernel) (pa_cons (pv 7) pa_nil)) pa_nil))))
      (pss_one (ps_if (pt_cmpR op_eq (gc (ok_law_take T) (hr.mono (by decide)) (T.g 20) pn (pa_cons (pv 0) (pa_cons pe_int pa_nil))) pe_int (nomark _)) (pss_one (ps_set (i := 4) sc_law_dear.nd rfl (Or.inl rfl) (gc (ok_law_take T) (hr.mono (by decide)) (T.g 20) pn (pa_cons (pv 0) (pa_cons (pv 1) pa_nil))))) pss_nil))))))))
      (pss_one (ps_ret (pe_callTy (cTup K) (by rfl) (T.b 73) (by decide +kernel) (pa_cons (pv 3) pa_nil))))))), ?_⟩
    walk_at "rd"
    refine ⟨Nat.zero_le _, fun L hL => ?_⟩
    have hs0 := hst.d.ne
    obtain ⟨a3', r3', t3', o3', h3'⟩ := id hst.d
    have hLst : L ∉ [st] := fun m => by
      rw [List.mem_singleton.mp m, h3'] at hL
      cases hL
    walk_at "rd"
    refine ⟨_, rfl, by omega, by omega, ?_⟩
    rw [Int.toNat_natCast]
    refine forW (walk_range (lo := 0) (n := size)) (fun i σ H' => ∃ (b : Nat) (u v w : Option V), σ = [some (.ref st), some (.int (many : Int)), some (.int (size : Int)), some (.ref L), some (.int (b : Int)), u, v, w, none] ∧ b < many ∧ Kp [st] H H' ∧ DsAt H' st c ∧
        ∃ vs rows, H' L = some (.lst vs) ∧ Rws K H' vs rows ∧ Pls H' vs ∧ rows.length = i ∧ ∀ r ∈ rows, RowIs many r)
      ⟨0, _, _, _, rfl, m1, Kp.new hL, hst.d.upd hs0 hL, [], [], upd_same, ⟨rfl, fun i r e => by cases e⟩, Pls.nil, rfl, fun r m => by cases m⟩ (fun _ _ _ _ _ => trivial) (fun i z σ H4 H5 hi p y => ?_) (fun σ H' p => ?_)
    · obtain ⟨b, u, v, w', rfl, hb, kp, d4, vs, rows, hv, hw4, hp4, hlen, hri⟩ := p
      obtain ⟨rfl, rfl⟩ := y
      have s4 := hst.step kp d4
      walk_at "rd"
      refine ⟨st, c, ns, _, rfl, by decide, by decide, s4, fun H6 x6 k6 d6 a6 b6 => ?_⟩
      have s6 := s4.step k6 d6
      have hv6 := k6 L _ hv hLst
      have hw6 := hw4.map (d4.kp (K := K) k6).t
      have hp6 := hp4.map fun p h => d4.pl k6 h
      walk_at "rd"
      refine lcRK (n := many) (L := [st]) (fun H => DsAt H st c) (fun _ v => ∃ x, v = .int x ∧ 1 ≤ x ∧ x ≤ 1000000) (fun b m => by rw [List.mem_singleton.mp m]; exact d6.ne) (fun H' D o hD d => d.upd d6.ne hD) d6 (by omega) (val_var rfl) (fun _ => by rfl)
        (fun m hm H7 k7 d7 R q => ?_) (fun D H7 us hD k7 d7 hus hlus hous => ?_)
      · walk_at "rd"
        refine ⟨st, c, ns, _, rfl, by decide, by decide, s6.step k7 d7, fun H8 x k8 d8 x0 x1 => ?_⟩
        walk_at "rd"
        exact q _ _ k8 d8 ⟨_, rfl, by omega, by omega⟩
      obtain ⟨r, rfl, hr⟩ := ints_of hous
      rw [List.length_map] at hlus
      have hv7 := k7 L _ hv6 hLst
      have hw7 := hw6.map (d6.kp (K := K) k7).t
      have hp7 := hp6.map fun p h => d6.pl k7 h
      have hDL : L ≠ D := fun e => by
        rw [← e, hv6] at hD
        cases hD
      have k07 := (kp.trans k6).trans k7
      have hD0 : H D = none := by
        obtain ⟨_, _, _, _, h9⟩ := d6
        exact (kp.trans k6).free1 h9 hD
      walk_at "rd"
      refine ⟨D, _, _, b, rfl, rfl, hus, ?_, ?_⟩
      · unfold ixN
        rw [if_pos (by omega), if_pos (by rw [List.length_map]; omega), Int.toNat_natCast]
      have e7 : (r.map V.int).set b (.int (1 + x6)) = (r.set b (1 + x6)).map V.int := by rw [List.map_set]
      rw [e7]
      have hrx : RowIs many (r.set b (1 + x6)) := ⟨by rw [List.length_set]; exact hlus, fun y hy => by
        rcases List.mem_or_eq_of_mem_set hy with z | z
        · exact hr y z
        · rw [z]
          omega⟩
      have k08 := k07.chg (o := .lst ((r.set b (1 + x6)).map V.int)) hD0
      have d8 := d7.upd (o := .lst ((r.set b (1 + x6)).map V.int)) hs0 hD0
      have hv8 : (upd H7 D (.lst ((r.set b (1 + x6)).map V.int))) L = some (.lst vs) := (upd_ne hDL).trans hv7
      have hw8 : Rws K (upd H7 D (.lst ((r.set b (1 + x6)).map V.int))) vs rows := hw7.map fun p ys h => sqt_kp kp_self hus h
      walk_at "rd"
      refine ⟨.inl ⟨rfl, _, SqL.of hv8⟩, ?_⟩
      walk_at "rd"
      refine ⟨D, _, rfl, SqL.of upd_same, fun t o ht ho => ?_⟩
      have n9 := ex_new (o := .frz o (.tup ((r.set b (1 + x6)).map V.int))) ht
      have hv9 := n9 _ _ hv8
      walk_at "rd"
      refine r_append hv9 (by rw [hw8.len]; omega) ?_
      have hD10 : (upd (upd (upd H7 D (.lst ((r.set b (1 + x6)).map V.int))) t (.frz o (.tup ((r.set b (1 + x6)).map V.int)))) L (.lst (vs ++ [.ref t]))) D = some (.lst ((r.set b (1 + x6)).map V.int)) := (upd_ne (Ne.symm hDL)).trans (n9 _ _ upd_same)
      have k10 := (k08.newT (o := .frz o (.tup ((r.set b (1 + x6)).map V.int))) ht).chg (o := .lst (vs ++ [.ref t])) hL
      have d10 := (d8.ex n9).upd (o := .lst (vs ++ [.ref t])) hs0 hL
      have hw10 : Rws K (upd (upd (upd H7 D (.lst ((r.set b (1 + x6)).map V.int))) t (.frz o (.tup ((r.set b (1 + x6)).map V.int)))) L (.lst (vs ++ [.ref t]))) (vs ++ [.ref t]) (rows ++ [r.set b (1 + x6)]) :=
        Rws.snoc (hw8.map fun p ys h => sqt_kp kp_self hv9 ((ex_sb n9).t _ _ h)) (sqt_kp kp_self hv9 (sqt_frz upd_same))
      have hp10 := Pls.snoc (hp7.map fun p h => plt_kp (kp_self (o := .lst (vs ++ [.ref t]))) hv9 ((plt_kp kp_self hus h).ex n9)) (plt_kp kp_self hv9 (plt_new ho))
      have hall : ∀ q ∈ rows ++ [r.set b (1 + x6)], RowIs many q := fun q hq => by
        rcases List.mem_append.mp hq with z | z
        · exact hri q z
        · rw [List.mem_singleton.mp z]
          exact hrx
      have hne : r.set b (1 + x6) ≠ [] := fun e => by
        have := hrx.1
        rw [e] at this
        have : (0 : Nat) = many := this
        omega
      walk_at "rd"
      refine ⟨.inl ⟨rfl, _, SqL.of hD10⟩, ?_⟩
      walk_at "rd"
      refine ⟨D, _, rfl, .inl (SqL.of hD10), hne, ?_⟩
      walk_at "rd"
      obtain ⟨hj, hj1, hj2⟩ := first_idx (lmin_mem hne)
      refine ⟨D, _, _, _, _, rfl, rfl, SqL.of hD10, rfl, flat_ints _, hj1, ?_, hj2, ?_⟩
      · show (_ == _) = true
        exact beq_self_eq_true _
      have hjm : (r.set b (1 + x6)).idxOf (lmin (r.set b (1 + x6))) < many := by
        rw [← hrx.1]
        exact hj
      walk_at "rd"
      have s10 := hst.step k10 d10
      refine ⟨st, c, ns, _, rfl, by decide, by decide, s10, fun H11 x11 k11 d11 a11 b11 => ?_⟩
      have s11 := s10.step k11 d11
      have hv11 := k11 L _ upd_same hLst
      have hw11 := hw10.map (d10.kp (K := K) k11).t
      have hp11 := hp10.map fun p h => d10.pl k11 h
      walk_at "rd"
      refine r_eqi (ifB (fun b3 => ?_) (fun b3 => ?_))
      · walk_at "rd"
        refine ⟨st, c, ns, _, rfl, by omega, by omega, s11, fun H12 x12 k12 d12 a12 b12 => ?_⟩
        obtain ⟨j12, rfl⟩ := Int.eq_ofNat_of_zero_le a12
        walk_at "rd"
        exact ⟨j12, _, _, _, rfl, by omega, (k10.trans k11).trans k12, d12, _, _, k12 L _ hv11 hLst, hw11.map (d11.kp (K := K) k12).t, hp11.map fun p h => d11.pl k12 h, by simp [hlen], hall⟩
      · walk_at "rd"
        exact ⟨_, _, _, _, rfl, hjm, k10.trans k11, d11, _, _, hv11, hw11, hp11, by simp [hlen], hall⟩
    · obtain ⟨b, u, v, w', rfl, hb, kp, d4, vs, rows, hv, hw4, hp4, hlen, hri⟩ := p
      walk_at "rd"
      refine ⟨L, vs, rfl, .inl ⟨SqL.of hv, fun t ht => ?_⟩⟩
      have n8 := ex_new (o := .tup vs) ht
      exact k _ _ _ rows (kp.newT ht) (d4.ex n8) upd_same (hw4.map fun p ys h => (ex_sb n8).t _ _ h) (hp4.map fun p h => h.ex n8) hlen hri
end
end PU
/-! PUnd96: the law's own sums. -/
namespace PU
open PySem PySem.Spec PyProof.Rows L2 Ts K96
local macro_rules | `(tactic| walk_at "rd1") => `(tactic| first
  | with_reducible refine r_seq ?_ | with_reducible refine r_ret ?_ | with_reducible refine r_asg ?_ | with_reducible refine r_drop ?_ | with_reducible refine r_ifS ?_ | with_reducible refine r_next ?_
  | (with_reducible refine r_varE ?_; refine ⟨_, rfl, ?_⟩) | with_reducible refine r_c ?_ | with_reducible refine r_op ?_ | with_reducible refine r_I0 ?_ | (with_reducible refine r_eq ?h1 ?_; (case h1 => exact rfl)) | (with_reducible refine r_ne ?h1 ?_; (case h1 => exact rfl))
  | with_reducible refine r_nil ?_ | with_reducible refine r_cons ?_ | with_reducible refine r_cb ?_ | with_reducible refine r_call ?_ | with_reducible refine r_test ?_ | with_reducible refine r_tB ?_ | with_reducible refine r_bll ?_ | with_reducible refine r_int ?_
  | with_reducible refine r_not ?_ | with_reducible refine r_and ?_ | with_reducible refine r_or ?_ | with_reducible refine r_if ?_ | with_reducible refine r_isa ?_ | with_reducible refine r_tup ?_ | with_reducible refine r_lst ?_
  | with_reducible refine r_for ?_ | with_reducible refine r_iTup ?_ | with_reducible refine r_iList ?_ | with_reducible refine r_rng1 ?_ | with_reducible refine r_rng2 ?_ | with_reducible refine r_zipA ?_ | with_reducible refine r_enT ?_ | with_reducible refine r_zipM ?_ | with_reducible refine r_bmG ?_ | with_reducible refine r_enL ?_ | with_reducible refine r_revA ?_
  | (with_reducible refine r_augE ?_; refine ⟨_, rfl, ?_⟩) | with_reducible refine r_ipI ?_ | with_reducible refine r_rAdd ?_ | with_reducible refine r_bm ?_ | with_reducible refine r_bm0 ?_ | with_reducible refine r_gn ?_ | with_reducible refine r_asgG ?_
  | with_reducible refine r_sl ?_ | with_reducible refine r_nop ?_ | with_reducible refine r_part ?_ | with_reducible refine r_chain ?_ | with_reducible refine r_un ?_ | with_reducible refine r_rU ?_ | with_reducible refine r_fldE ?_ | with_reducible refine r_sfld ?_ | with_reducible refine r_sfldaug ?_ | with_reducible refine r_lstRg ?_ | with_reducible refine r_rg1 ?_ | with_reducible refine r_dget ?_ | with_reducible refine r_dput ?_ | with_reducible refine r_disp ?_ | with_reducible refine r_gsub ?_ | with_reducible refine r_pairC ?_ | with_reducible refine r_pairN ?_ | with_reducible refine r_meth ?_ | with_reducible refine r_make ?_ | with_reducible refine iteT ?_ | with_reducible refine iteF ?_)
local macro_rules | `(tactic| walk_at "rd") => `(tactic| repeat walk_at "rd1")

def sp_law_paid96 (K : PySem.W.Frag) : Sp := fun vs H Q _ => ∃ x y toll n rows c, vs = [x, .int toll, y] ∧ Dp K H x (dCosts rows) ∧ Okc toll n rows ∧ Dp K H y (dNats c) ∧ Okch n rows c ∧
  ∀ H', Ex H H' → Q (.int (UM.C toll rows (fun p => c.getD p 0) rows.length)) H'
/-- the told steps -/
structure StepsAt (K : PySem.W.Frag) (H : Hp) (toll : Int) (n : Nat) (rows : List (List Int)) (ss : List V) (m : Nat) : Prop where
  len : ss.length = m
  get : ∀ i, i < m → ∃ t q, ss[i]? = some (.ref t) ∧ SqT K H t [.int (((UM.S toll n rows (i + 1)).kind : Nat) : Int), .ref q, .int (UM.S toll n rows (i + 1)).paid, .int (((UM.S toll n rows (i + 1)).phases : Nat) : Int)] ∧
    SqT K H q ((UM.S toll n rows (i + 1)).sums.map V.int)
theorem StepsAt.map {K : PySem.W.Frag} {H H' : Hp} {toll : Int} {n : Nat} {rows : List (List Int)} {ss : List V} {m : Nat} (h : StepsAt K H toll n rows ss m) (t : ∀ p ys, SqT K H p ys → SqT K H' p ys) : StepsAt K H' toll n rows ss m :=
  ⟨h.len, fun i hi => by
    obtain ⟨a, q, h1, h2, h3⟩ := h.get i hi
    exact ⟨a, q, h1, t _ _ h2, t _ _ h3⟩⟩
theorem StepsAt.snoc {K : PySem.W.Frag} {H : Hp} {toll : Int} {n : Nat} {rows : List (List Int)} {ss : List V} {m : Nat} {t q : Addr} (h : StepsAt K H toll n rows ss m)
    (h1 : SqT K H t [.int (((UM.S toll n rows (m + 1)).kind : Nat) : Int), .ref q, .int (UM.S toll n rows (m + 1)).paid, .int (((UM.S toll n rows (m + 1)).phases : Nat) : Int)]) (h2 : SqT K H q ((UM.S toll n rows (m + 1)).sums.map V.int)) :
    StepsAt K H toll n rows (ss ++ [.ref t]) (m + 1) := by
  refine ⟨by rw [List.length_append, h.len]; rfl, fun i hi => ?_⟩
  by_cases e : i < m
  · obtain ⟨a, b, g1, g2, g3⟩ := h.get i e
    exact ⟨a, b, by rw [List.getElem?_append_left (by rw [h.len]; exact e)]; exact g1, g2, g3⟩
  · have ei : i = m := by omega
    subst ei
    refine ⟨t, q, ?_, h1, h2⟩
    rw [List.getElem?_append_right (by rw [h.len]; exact Nat.le_refl _), h.len, Nat.sub_self]
    rfl
theorem phases_eds {toll : Int} {n : Nat} {rows : List (List Int)} : ∀ i, (UM.S toll n rows i).phases = (eds toll n rows i).length
  | 0 => rfl
  | i + 1 => by
    have ih := phases_eds (toll := toll) (n := n) (rows := rows) i
    rw [eds_succ, List.length_append, ← ih]
    show (if UM.ended toll n rows i = true then (UM.S toll n rows i).phases + 1 else (UM.S toll n rows i).phases) = _
    split
    · rfl
    · rfl
def sp_law_under96 (K : PySem.W.Frag) : Sp := fun vs H Q _ => ∃ (a : Addr) (xs : List V) (toll : Int) (n : Nat) (rows : List (List Int)), vs = [.ref a, .int toll, .int (n : Int)] ∧ SqT K H a xs ∧ Rws K H xs rows ∧ Pls H xs ∧ Okc toll n rows ∧
  ∀ F pc pe st ss H', Ex H H' → H' F = some (.lst [.ref pc, .int (UM.S toll n rows rows.length).paid, .ref pe, .ref st]) → SqT K H' pc (vNats (chs toll n rows rows.length)) → SqT K H' pe (vNats (eds toll n rows rows.length)) →
    H' st = some (.lst ss) → StepsAt K H' toll n rows ss rows.length → Q (.ref F) H'
section
variable {P : Program} {w : World} {K : PySem.W.Frag} {mg : Str → Option Value} {base : Heap}
theorem sc_law_paid : FnScope ["_law_costs_here", "_law_toll_here", "_law_choice", "_law_found", "_law_ahead", "_law_row", "_law_kind"] ["_law_costs_here", "_law_toll_here", "_law_choice"] (defScope slaw_paid) := ⟨rfl, rfl, rfl, by decide +kernel, rfl, by decide +kernel, by decide +kernel⟩
theorem ok_law_paid (T : Tx fa fn K mg) : GFn P w K mg base 1 (He.fAd K dlaw_paid.at_) ["_law_costs_here", "_law_toll_here", "_law_choice"] (sp_law_paid96 K) := by
  obtain ⟨fd, F⟩ := T.says.def_ 26 (d := dlaw_paid) rfl
  refine ok0 F sc_law_paid (fun vs H Q E h => ?_) (fun _ _ _ _ _ _ us hl => match us, hl with | [_, _, _], _ => rfl) (fun cdv A outer s H vs Q E hr h => ?_)
  · obtain ⟨x, y, toll, n, rows, d, rfl, _⟩ := h
    rfl
  · obtain ⟨x, y, toll, n, rows, c, rfl, hx, o, hd, hc, k⟩ := h
    refine ⟨_, (pss_cons (ps_set (i := 3) sc_law_paid.nd rfl (Or.inl rfl) pe_int)
      (pss_cons (ps_set (i := 4) sc_law_paid.nd rfl (Or.inl rfl) pe_int)
      (pss_cons (ps_for (by first | exact PassesOwn.never | exact passes_of rfl) rfl (RZ.pi_zipA rfl (T.b 74) (pa_cons (pv 0) (pa_cons (pv 2) pa_nil))) (gtupK K (n := 2) rfl (pgs_cons (pg_name (i := 5) sc_law_paid.nd rfl (Or.inl rfl)) (pgs_cons (pg_name (i := 6) sc_law_paid.nd rfl (Or.inl rfl)) pgs_nil))) (pss_cons (ps_set (i := 3) sc_law_paid.nd rfl (Or.inl rfl) (pe_op op_add (pv 3) (pe_ix (ixT K) (pv 5) (pv 6) (fun _ _ => rfl))))
      (pss_cons (ps_if (pt_cmpR op_ne (pv 6) (pv 4) (nomark _)) (pss_one (ps_set (i := 3) sc_law_paid.nd rfl (Or.inl rfl) (pe_op op_add (pv 3) (pv 1)))) pss_nil)
      (pss_one (ps_set (i := 4) sc_law_paid.nd rfl (Or.inl rfl) (pv 6))))))
      (pss_one (ps_ret (pv 3)))))), ?_⟩
    walk_at "rd"
    obtain ⟨a, xs, ca⟩ := cost_at hx
    obtain ⟨b, eb, hb⟩ := dp_ints hd
    have ev := ca.ev
    subst ev eb
    have hlen : xs.length = ((c.map fun k : Nat => (k : Int)).map V.int).length := by rw [ca.len, List.length_map, List.length_map, hc.len]
    refine ⟨a, b, _, _, rfl, .inr ⟨ca.sq, hb, ?_⟩⟩
    refine forW (walk_zipT (K := K) (a := a) (b := b) hlen) (fun i σ H' => Ex H H' ∧ ∃ u v, σ = [some (.ref a), some (.int toll), some (.ref b), some (.int (UM.C toll rows (fun p => c.getD p 0) i)), some (.int ((UM.prev (fun p => c.getD p 0) i : Nat) : Int)), u, v]) ⟨Evl.Ex.refl _, _, _, rfl⟩
      (fun i σ H' _ p => ⟨(ex_sb p.1).t _ _ ca.sq, (ex_sb p.1).t _ _ hb⟩) (fun i z σ H3 H4 hi p y => ?_) (fun σ H' p => ?_)
    · obtain ⟨e3, u, v, rfl⟩ := p
      obtain ⟨T', r, kd, rfl, hT, rfl, hr1, hk1⟩ := y
      refine r_pair (SqT.of upd_same) ?_
      obtain ⟨ek, hci⟩ := get_nats hk1
      subst ek
      have him : i < rows.length := by rw [← ca.len]; exact hi
      obtain ⟨br, hbr, hsr⟩ := ca.get i _ (row_get him)
      have er : r = .ref br := Option.some.inj (hr1.symm.trans hbr)
      subst er
      have e4 := ex_newT (o := .tup [V.ref br, .int ((c.getD i 0 : Nat) : Int)]) e3 hT
      have hlt : c.getD i 0 < (UM.row rows i).length := by
        rw [o.g.len i him]
        exact hc.at hci
      walk_at "rd"
      refine r_ixT ((ex_sb e4).t _ _ hsr) (at_ints hlt) ?_
      walk_at "rd"
      refine r_nei ?_
      rw [← decide_not]
      refine ifB (fun b1 => ?_) (fun b1 => ?_)
      · walk_at "rd"
        refine ⟨e4, some (.ref br), some (.int ((c.getD i 0 : Nat) : Int)), ?_⟩
        rw [prev_succ]
        have e5 : UM.C toll rows (fun p => c.getD p 0) (i + 1) = UM.C toll rows (fun p => c.getD p 0) i + (UM.row rows i).getD (c.getD i 0) 0 + toll := by
          show UM.C toll rows (fun p => c.getD p 0) i + (UM.at0 (UM.row rows i) (c.getD i 0) + UM.turn toll (UM.prev (fun p => c.getD p 0) i) (c.getD i 0)) = _
          have := of_decide_eq_true b1
          unfold UM.turn
          rw [if_neg (by omega)]
          unfold UM.at0
          omega
        rw [e5]
        rfl
      · walk_at "rd"
        refine ⟨e4, some (.ref br), some (.int ((c.getD i 0 : Nat) : Int)), ?_⟩
        rw [prev_succ]
        have e5 : UM.C toll rows (fun p => c.getD p 0) (i + 1) = UM.C toll rows (fun p => c.getD p 0) i + (UM.row rows i).getD (c.getD i 0) 0 := by
          show UM.C toll rows (fun p => c.getD p 0) i + (UM.at0 (UM.row rows i) (c.getD i 0) + UM.turn toll (UM.prev (fun p => c.getD p 0) i) (c.getD i 0)) = _
          have := of_decide_eq_false b1
          unfold UM.turn
          rw [if_pos (by omega)]
          unfold UM.at0
          omega
        rw [e5]
        rfl
    · obtain ⟨e3, u, v, rfl⟩ := p
      walk_at "rd"
      rw [ca.len]
      exact k _ e3
theorem sc_law_under : FnScope ["_law_costs_here", "_law_toll_here", "_law_many", "_law_sums", "_law_kind", "_law_found", "_law_place", "_law_row", "_law_one", "_law_more", "_law_ahead"] ["_law_costs_here", "_law_toll_here", "_law_many"] (defScope slaw_under) := ⟨rfl, rfl, rfl, by decide +kernel, rfl, by decide +kernel, by decide +kernel⟩
theorem ok_law_under (T : Tx fa fn K mg) : GFn P w K mg base 1 (He.fAd K dlaw_under.at_) ["_law_costs_here", "_law_toll_here", "_law_many"] (sp_law_under96 K) := by
  obtain ⟨fd, F⟩ := T.says.def_ 28 (d := dlaw_under) rfl
  refine ok0 F sc_law_under (fun vs H Q E h => ?_) (fun _ _ _ _ _ _ us hl => match us, hl with | [_, _, _], _ => rfl) (fun cdv A outer s H vs Q E hr h => ?_)
  · obtain ⟨a, xs, toll, n, rows, rfl, _⟩ := h
    rfl
  · obtain ⟨a, xs, toll, n, rows, rfl, hq, hw, hp, o, k⟩ := h
    have n1 := o.g.n1
    have n5 := o.n2
    have hm := o.m
    have t1 := o.g.t1
    have t2 := o.t2
    refine ⟨_, (pss_cons (ps_set (i := 3) sc_law_under.nd rfl (Or.inl rfl) (pe_op op_rep (pe_lst (pa_cons pe_int pa_nil)) (pv 2)))
      (pss_cons (ps_set (i := 4) sc_law_under.nd rfl (Or.inl rfl) pe_int)
      (pss_cons (ps_set (i := 5) sc_law_under.nd rfl (Or.inl rfl) (pe_lst (pa_cons (pe_tup pa_nil) (pa_cons pe_int (pa_cons (pe_tup pa_nil) (pa_cons (pe_lst pa_nil) pa_nil))))))
      (pss_cons (ps_for (by first | exact PassesOwn.never | exact passes_of rfl) rfl (pi_enumT rfl (T.b 60) (pa_cons (pv 0) pa_nil)) (gtupK K (n := 2) rfl (pgs_cons (pg_name (i := 6) sc_law_under.nd rfl (Or.inl rfl)) (pgs_cons (pg_name (i := 7) sc_law_under.nd rfl (Or.inl rfl)) pgs_nil))) (pss_cons (ps_setLc (i := 3) (own := [("_law_one", 8), ("_law_more", 9)]) (tt := tYes) rfl sc_law_under.nd rfl rfl (sw_true rfl rfl rfl (by decide +kernel)) (pi_zipM false true K rfl (T.b 74) (pa_cons (pv 3) (pa_cons (pv 7) pa_nil))) (blkOk_by (N := ["_law_costs_here", "_law_toll_here", "_law_many", "_law_sums", "_law_kind", "_law_found", "_law_place", "_law_row", "_law_one", "_law_more", "_law_ahead"]) (sc := defScope slaw_under) (by decide +kernel)) (fun _ _ _ _ _ => (gtupK K (n := 2) rfl (pgs_cons (pg_name (i := 8) sc_law_under.nd rfl (Or.inl rfl)) (pgs_cons (pg_name (i := 9) sc_law_under.nd rfl (Or.inl rfl)) pgs_nil)))) (fun _ _ _ _ _ => pts_nil) (fun _ _ _ _ _ => (pe_op op_add (pv 8) (pv 9))))
      (pss_cons (ps_set (i := 10) sc_law_under.nd rfl (Or.inl rfl) (pv 4))
      (pss_cons (ps_if (PW.pt (pw_and (pt_cmpR op_ge (pe_ix (ixL K) (pv 3) (pv 4) (fun _ _ => rfl)) (pv 1) (nomark _)) (pw_and1 (pt_cmpR op_lt (pe_callB (cMin K rfl) (by rfl) (T.b 66) (by decide +kernel) (pa_cons (pv 3) pa_nil)) (pv 1) (nomark _))))) (pss_one (ps_set (i := 4) sc_law_under.nd rfl (Or.inl rfl) (bmK K (pe_bm PySem.F.plainAttrs_list PySem.F.slot_list_index PySem.F.type_list_index (mIndex K) (pv 3) (pa_cons (pe_callB (cMin K rfl) (by rfl) (T.b 66) (by decide +kernel) (pa_cons (pv 3) pa_nil)) pa_nil))))) (pss_one (ps_if (pt_cmpR op_ge (pe_ix (ixL K) (pv 3) (pv 4) (fun _ _ => rfl)) (pv 1) (nomark _)) (pss_cons (ps_set (i := 4) sc_law_under.nd rfl (Or.inl rfl) (pe_ifExp (pt_cmpR op_eq (pe_ix (ixT K) (pv 7) (pv 4) (fun _ _ => rfl)) (pe_callB (cMin K rfl) (by rfl) (T.b 66) (by decide +kernel) (pa_cons (pv 7) pa_nil)) (nomark _)) (pv 4) (pe_bmF PySem.F.plainAttrs_tuple PySem.F.slot_tuple_index PySem.F.type_tuple_index (mIndexT K) (pv 7) (pa_cons (pe_callB (cMin K rfl) (by rfl) (T.b 66) (by decide +kernel) (pa_cons (pv 7) pa_nil)) pa_nil))))
      (pss_cons (ps_set (i := 3) sc_law_under.nd rfl (Or.inl rfl) (pe_op op_rep (pe_lst (pa_cons pe_int pa_nil)) (pv 2)))
      (pss_one (ps_asg (pe_op (ctA K) (pe_ix (ixL K) (pv 5) pe_int (fun _ _ => rfl)) (pe_tup (pa_cons (pv 6) pa_nil))) (pg_sub (pv 5) pe_int set_list))))) pss_nil)))
      (pss_cons (ps_asg (pe_op (ctA K) (pe_ix (ixL K) (pv 5) pe_int (fun _ _ => rfl)) (pe_tup (pa_cons (pv 4) pa_nil))) (pg_sub (pv 5) pe_int set_list))
      (pss_cons (ps_asg (pe_op op_add (pe_op op_add (pe_ix (ixL K) (pv 5) pe_int (fun _ _ => rfl)) (pe_ix (ixT K) (pv 7) (pv 4) (fun _ _ => rfl))) (pe_op op_mul (pv 1) (pe_callTy call_int1 (by rfl) (T.b 61) (by decide +kernel) (pa_cons (pe_cmpR op_ne (pv 4) (pv 10) (nomark _)) pa_nil)))) (pg_sub (pv 5) pe_int set_list))
      (pss_one (ps_expr (bmK K (pe_bm PySem.F.plainAttrs_list PySem.F.slot_list_append PySem.F.type_list_append mt_append (pe_ix (ixL K) (pv 5) pe_int (fun _ _ => rfl)) (pa_cons (pe_tup (pa_cons (pv 4) (pa_cons (pe_callTy (cTup K) (by rfl) (T.b 73) (by decide +kernel) (pa_cons (pv 3) pa_nil)) (pa_cons (pe_ix (ixL K) (pv 5) pe_int (fun _ _ => rfl)) (pa_cons (pe_callB (cLen K) (by rfl) (T.b 63) (by decide +kernel) (pa_cons (pe_ix (ixL K) (pv 5) pe_int (fun _ _ => rfl)) pa_nil)) pa_nil))))) pa_nil)))))))))))
      (pss_one (ps_ret (pv 5))))))), ?_⟩
    walk_at "rd"
    refine ⟨Nat.le_of_lt (small_line (by show 1 ≤ 1000000; decide)), fun L hL => ?_⟩
    have e1 := ex_new (o := .lst [V.int 0]) hL
    walk_at "rd"
    refine ⟨L, n, [V.int 0], rfl, rfl, upd_same, by omega, by omega, Nat.le_of_lt (small_line (by show 1 * (n : Int).toNat ≤ 1000000; omega)), fun S hS => ?_⟩
    have hS0 := ex_free e1 hS
    rw [Int.toNat_natCast, rep_flat]
    have e2 := ex_newT (o := .lst (List.replicate n (V.int 0))) e1 hS
    walk_at "rd"
    refine ⟨Nat.zero_le _, fun p1 hp1 => ?_⟩
    have e3 := ex_newT (o := .tup []) e2 hp1
    walk_at "rd"
    refine ⟨Nat.zero_le _, fun p2 hp2 => ?_⟩
    have e4 := ex_newT (o := .tup []) e3 hp2
    walk_at "rd"
    refine ⟨Nat.zero_le _, fun ST hST => ?_⟩
    have e5 := ex_newT (o := .lst []) e4 hST
    walk_at "rd"
    refine ⟨Nat.le_of_lt (small_line (by show 4 ≤ 1000000; decide)), fun F hF => ?_⟩
    have n6 := ex_new (o := .lst [V.ref p1, .int 0, .ref p2, .ref ST]) hF
    have e6 := Evl.Ex.trans e5 n6
    walk_at "rd"
    have hST6 := n6 _ _ (upd_same (o := HO.lst []))
    have n5' := ex_new (o := .lst []) hST
    have n4' := ex_new (o := .tup []) hp2
    have n3' := ex_new (o := .tup []) hp1
    have hp16 := n6 _ _ (n5' _ _ (n4' _ _ (upd_same (o := HO.tup []))))
    have hp26 := n6 _ _ (n5' _ _ (upd_same (o := HO.tup [])))
    have hS5 := n5' _ _ (n4' _ _ (n3' _ _ (upd_same (o := HO.lst (List.replicate n (V.int 0))))))
    have hS6 := n6 _ _ hS5
    have hSF : S ≠ F := ne_of_none hS5 hF
    have hSST : S ≠ ST := ne_of_none (n4' _ _ (n3' _ _ (upd_same (o := HO.lst (List.replicate n (V.int 0)))))) hST
    have hFST : F ≠ ST := (ne_of_none (upd_same (o := HO.lst [])) hF).symm
    have hF0 := ex_free e5 hF
    have hST0 := ex_free e4 hST
    refine ⟨a, xs, rfl, (ex_sb e6).t _ _ hq, ?_⟩
    refine forW (walk_enumT (K := K) (a := a) (xs := xs)) (fun i σ H' => ∃ S pc pe u v w ss, σ = [some (.ref a), some (.int toll), some (.int (n : Int)), some (.ref S), some (.int (((UM.S toll n rows i).kind : Nat) : Int)), some (.ref F), u, v, none, none, w] ∧ Ex H H' ∧
        H' S = some (.lst ((UM.S toll n rows i).sums.map V.int)) ∧ S ≠ F ∧ S ≠ ST ∧ H' F = some (.lst [.ref pc, .int (UM.S toll n rows i).paid, .ref pe, .ref ST]) ∧ SqT K H' pc (vNats (chs toll n rows i)) ∧ SqT K H' pe (vNats (eds toll n rows i)) ∧ H' ST = some (.lst ss) ∧ StepsAt K H' toll n rows ss i)
      ⟨S, p1, p2, _, _, _, [], rfl, e6, ?_, hSF, hSST, upd_same, SqT.of hp16, SqT.of hp26, hST6, rfl, fun i hi => absurd hi (Nat.not_lt_zero i)⟩ (fun i σ H' _ p => ?_) (fun i z σ H3 H4 hi p y => ?_) (fun σ H' p => ?_)
    · rw [hS6]
      show some (HO.lst (List.replicate n (V.int 0))) = some (HO.lst ((List.replicate n (0 : Int)).map V.int))
      rw [List.map_replicate]
    · obtain ⟨S, pc, pe, u, v, w, ss, rfl, e7, _⟩ := p
      exact (ex_sb e7).t _ _ hq
    · obtain ⟨S, pc, pe, u, v, w, ss, rfl, e7, hS, hSF, hSST, hF, hpc, hpe, hST, hss⟩ := p
      obtain ⟨T', y1, r, rfl, hT, rfl, hy1, hr1⟩ := y
      cases hy1
      have him : i < rows.length := by rw [← hw.len]; exact hi
      obtain ⟨br, hbr, hsr⟩ := hw.get i _ (row_get him)
      have er : r = .ref br := Option.some.inj (hr1.symm.trans hbr)
      subst er
      obtain ⟨b', eb, hpl⟩ := hp _ (List.mem_of_getElem? hbr)
      cases eb
      have n8 := ex_new (o := .tup [V.int (i : Int), V.ref br]) hT
      have e8 := Evl.Ex.trans e7 n8
      have sb8 := ex_sb (K := K) n8
      have hok := UM.S_ok o.g i (by omega)
      have hrl : (UM.row rows i).length = n := o.g.len i him
      have hgl : (UM.grown (UM.S toll n rows i) (UM.row rows i)).length = n := by
        unfold UM.grown
        rw [List.length_zipWith, hok.l, hrl]
        exact Nat.min_self n
      refine r_pair (SqT.of upd_same) ?_
      with_reducible refine r_seq ?_
      refine lcZM_map (b1 := false) (b2 := true) (zs := UM.grown (UM.S toll n rows i) (UM.row rows i)) V.int (fun R q => ?_) (SqL.of (n8 _ _ hS)) ((ex_sb e8).t _ _ hsr) (by rw [List.length_map, List.length_map, hok.l, hrl]) (by rw [List.length_map, hok.l, hgl]) (by rw [List.length_map, hok.l]; omega) (fun _ _ => by rfl)
        (fun H' e => SqL.of (e _ _ (n8 _ _ hS))) (fun H' e => (ex_sb (Evl.Ex.trans e8 e)).t _ _ hsr) (fun m x y z hx hy hz H6 e6 R q => ?_) (fun D H6 hD e6 h6 => ?_)
      · walk_at "rd"
        exact q
      · obtain ⟨rfl, hm1⟩ := get_ints hx
        obtain ⟨rfl, hm2⟩ := get_ints hy
        walk_at "rd"
        have ez : z = UM.at0 (UM.S toll n rows i).sums m + UM.at0 (UM.row rows i) m := by
          rw [← UM.at0_zip hm1 hm2]
          show z = UM.at0 (UM.grown _ _) m
          unfold UM.at0
          rw [List.getD_eq_getElem?_getD, hz]
          rfl
        rw [← ez]
        exact q _ (Evl.Ex.refl _)
      have e9 := Evl.Ex.trans e8 e6
      have n9 := Evl.Ex.trans n8 e6
      have hDF : D ≠ F := (ne_of_none (n8 _ _ hF) hD).symm
      have hDST : D ≠ ST := (ne_of_none (n8 _ _ hST) hD).symm
      have hF9 := n9 _ _ hF
      have hST9 := n9 _ _ hST
      have hpc9 := (ex_sb n9).t _ _ hpc
      have hpe9 := (ex_sb n9).t _ _ hpe
      have hss9 := hss.map (ex_sb n9).t
      have hsr9 := (ex_sb e9).t _ _ hsr
      have hpl9 := hpl.ex e9
      refine r_gn ?_
      with_reducible refine r_seq ?_
      with_reducible refine r_asg ?_
      with_reducible refine r_varE ?_
      refine ⟨_, rfl, ?_⟩
      with_reducible refine r_seq ?_
      refine r_ifS2 (fun σ' Hx => ∃ S' pe', σ' = [some (.ref a), some (.int toll), some (.int (n : Int)), some (.ref S'), some (.int (((UM.S toll n rows (i + 1)).kind : Nat) : Int)), some (.ref F), some (.int (i : Int)), some (.ref br), none, none, some (.int (((UM.S toll n rows i).kind : Nat) : Int))] ∧ Ex H Hx ∧
        Hx S' = some (.lst ((UM.S toll n rows (i + 1)).sums.map V.int)) ∧ S' ≠ F ∧ S' ≠ ST ∧ Hx F = some (.lst [.ref pc, .int (UM.S toll n rows i).paid, .ref pe', .ref ST]) ∧ SqT K Hx pc (vNats (chs toll n rows i)) ∧ SqT K Hx pe' (vNats (eds toll n rows (i + 1))) ∧ Hx ST = some (.lst ss) ∧ StepsAt K Hx toll n rows ss i) (fun σ' Hx pre => ?_) (fun tail => ?_)
      · obtain ⟨S', pe', rfl, ex, hS', hS'F, hS'ST, hFx, hpcx, hpex, hSTx, hssx⟩ := pre
        have hkn : (UM.S toll n rows (i + 1)).kind < n := (UM.S_ok o.g (i + 1) (by omega)).k
        have hsrx := (ex_sb ex).t _ _ hsr
        walk_at "rd"
        refine r_ixL (xs := [.ref pc, .int (UM.S toll n rows i).paid, .ref pe', .ref ST]) (SqL.of hFx) (atI_nat (j := 0) rfl) ?_
        walk_at "rd"
        refine ⟨Nat.le_of_lt (small_line (by show 1 ≤ 1000000; decide)), fun z hz => ?_⟩
        have m1 := ex_new (o := .tup [V.int (((UM.S toll n rows (i + 1)).kind : Nat) : Int)]) hz
        walk_at "rd"
        refine r_catA ((ex_sb m1).t _ _ hpcx) (SqT.of upd_same) (by rw [List.length_map, chs_len]; omega) fun q H7 m2 hq7 => ?_
        have m12 := Evl.Ex.trans m1 m2
        have hF7 := m12 _ _ hFx
        walk_at "rd"
        refine ⟨F, _, _, 0, rfl, rfl, hF7, rfl, ?_⟩
        obtain ⟨H8, eH8⟩ : ∃ H8, H8 = upd H7 F (.lst ([V.ref pc, .int (UM.S toll n rows i).paid, .ref pe', .ref ST].set 0 (.ref q))) := ⟨_, rfl⟩
        rw [← eH8]
        have k8 : Kp [F] H7 H8 := by rw [eH8]; exact kp_self
        have hF8 : H8 F = some (.lst [V.ref q, .int (UM.S toll n rows i).paid, .ref pe', .ref ST]) := by rw [eH8]; exact upd_same
        have ex8 : Ex H H8 := by rw [eH8]; exact ex_chg (Evl.Ex.trans ex m12) hF0
        have t8 : ∀ p ys, SqT K _ p ys → SqT K H8 p ys := fun p ys h => sqt_kp k8 hF7 ((ex_sb m12).t _ _ h)
        have hq8 : SqT K H8 q (vNats (chs toll n rows (i + 1))) := by
          rw [chsV]
          exact sqt_kp k8 hF7 hq7
        have hS8 : H8 S' = _ := k8 _ _ (m12 _ _ hS') fun m => hS'F (List.mem_singleton.mp m)
        have hST8 : H8 ST = _ := k8 _ _ (m12 _ _ hSTx) fun m => hFST (List.mem_singleton.mp m).symm
        have hss8 := hssx.map t8
        have hpe8 := t8 _ _ hpex
        have hsr8 := t8 _ _ hsrx
        walk_at "rd"
        refine r_ixL (xs := [.ref q, .int (UM.S toll n rows i).paid, .ref pe', .ref ST]) (SqL.of hF8) (atI_nat (j := 1) rfl) ?_
        walk_at "rd"
        refine r_ixT hsr8 (at_ints (by rw [hrl]; exact hkn)) ?_
        walk_at "rd"
        refine r_ne rfl ?_
        rw [dec_int]
        walk_at "rd"
        refine .inr ⟨_, rfl, ?_⟩
        refine r_I (.inl ⟨by omega, by omega⟩) ?_
        walk_at "rd"
        have epaid : (UM.S toll n rows i).paid + (UM.row rows i).getD (UM.S toll n rows (i + 1)).kind 0 + toll * (if (!decide ((((UM.S toll n rows (i + 1)).kind : Nat) : Int) = (((UM.S toll n rows i).kind : Nat) : Int))) = true then 1 else 0) = (UM.S toll n rows (i + 1)).paid := by
          show _ = (UM.S toll n rows i).paid + (UM.at0 (UM.row rows i) (UM.S toll n rows (i + 1)).kind + UM.turn toll (UM.S toll n rows i).kind (UM.S toll n rows (i + 1)).kind)
          unfold UM.turn UM.at0
          by_cases c : (UM.S toll n rows i).kind = (UM.S toll n rows (i + 1)).kind
          · rw [if_pos c, decide_eq_true (by omega), if_neg (by decide)]
            omega
          · rw [if_neg c, decide_eq_false (by omega)]
            show _ + toll * 1 = _
            omega
        rw [epaid]
        refine ⟨F, _, _, 1, rfl, rfl, hF8, rfl, ?_⟩
        obtain ⟨H9, eH9⟩ : ∃ H9, H9 = upd H8 F (.lst ([V.ref q, .int (UM.S toll n rows i).paid, .ref pe', .ref ST].set 1 (.int (UM.S toll n rows (i + 1)).paid))) := ⟨_, rfl⟩
        rw [← eH9]
        have k9 : Kp [F] H8 H9 := by rw [eH9]; exact kp_self
        have hF9 : H9 F = some (.lst [V.ref q, .int (UM.S toll n rows (i + 1)).paid, .ref pe', .ref ST]) := by rw [eH9]; exact upd_same
        have ex9 : Ex H H9 := by rw [eH9]; exact ex_chg ex8 hF0
        have t9 : ∀ p ys, SqT K H8 p ys → SqT K H9 p ys := fun p ys h => sqt_kp k9 hF8 h
        have hS9 : H9 S' = _ := k9 _ _ hS8 fun m => hS'F (List.mem_singleton.mp m)
        have hST9 : H9 ST = _ := k9 _ _ hST8 fun m => hFST (List.mem_singleton.mp m).symm
        have hq9 := t9 _ _ hq8
        have hpe9 := t9 _ _ hpe8
        have hss9 := hss8.map t9
        walk_at "rd"
        refine r_ixL (xs := [.ref q, .int (UM.S toll n rows (i + 1)).paid, .ref pe', .ref ST]) (SqL.of hF9) (atI_nat (j := 3) rfl) ?_
        refine ⟨.inl ⟨rfl, _, SqL.of hST9⟩, ?_⟩
        walk_at "rd"
        refine ⟨S', _, rfl, .inl ⟨SqL.of hS9, fun t ht => ?_⟩⟩
        have m3 := ex_new (o := .tup ((UM.S toll n rows (i + 1)).sums.map V.int)) ht
        walk_at "rd"
        refine r_ixL (xs := [.ref q, .int (UM.S toll n rows (i + 1)).paid, .ref pe', .ref ST]) (SqL.of (m3 _ _ hF9)) (atI_nat (j := 1) rfl) ?_
        walk_at "rd"
        refine r_ixL (xs := [.ref q, .int (UM.S toll n rows (i + 1)).paid, .ref pe', .ref ST]) (SqL.of (m3 _ _ hF9)) (atI_nat (j := 2) rfl) ?_
        walk_at "rd"
        refine ⟨pe', _, rfl, .inr ((ex_sb m3).t _ _ hpe9), ?_⟩
        rw [List.length_map, ← phases_eds]
        walk_at "rd"
        refine ⟨Nat.le_of_lt (small_line (by show 4 ≤ 1000000; decide)), fun t2 ht2 => ?_⟩
        have m4 := ex_new (o := .tup [V.int (((UM.S toll n rows (i + 1)).kind : Nat) : Int), .ref t, .int (UM.S toll n rows (i + 1)).paid, .int (((UM.S toll n rows (i + 1)).phases : Nat) : Int)]) ht2
        have m34 := Evl.Ex.trans m3 m4
        have hST10 := m34 _ _ hST9
        walk_at "rd"
        refine r_append hST10 (by rw [hssx.len]; omega) ?_
        walk_at "rd"
        have t11 : ∀ p ys, SqT K H9 p ys → SqT K (upd (upd (upd H9 t (.tup ((UM.S toll n rows (i + 1)).sums.map V.int))) t2 (.tup [V.int (((UM.S toll n rows (i + 1)).kind : Nat) : Int), .ref t, .int (UM.S toll n rows (i + 1)).paid, .int (((UM.S toll n rows (i + 1)).phases : Nat) : Int)])) ST (.lst (ss ++ [.ref t2]))) p ys :=
          fun p ys h => sqt_kp kp_self hST10 ((ex_sb m34).t _ _ h)
        refine ⟨S', q, pe', _, _, _, ss ++ [.ref t2], rfl, ex_chg (Evl.Ex.trans ex9 m34) hST0, ?_, hS'F, hS'ST, ?_, t11 _ _ hq9, t11 _ _ hpe9, upd_same, StepsAt.snoc (hss9.map t11) (sqt_kp kp_self hST10 (SqT.of upd_same)) (sqt_kp kp_self hST10 ((ex_sb m4).t _ _ (SqT.of upd_same)))⟩
        · rw [upd_ne hS'ST]
          exact m34 _ _ hS9
        · rw [upd_ne hFST]
          exact m34 _ _ hF9
      · have hgne : UM.grown (UM.S toll n rows i) (UM.row rows i) ≠ [] := fun z => by
          rw [z] at hgl
          have : (0 : Nat) = n := hgl
          omega
        have hrne : UM.row rows i ≠ [] := fun z => by
          rw [z] at hrl
          have : (0 : Nat) = n := hrl
          omega
        have keep : UM.nextKind toll n (UM.S toll n rows i) (UM.row rows i) = (UM.S toll n rows (i + 1)).kind := rfl
        have sum0 : UM.ending toll n (UM.S toll n rows i) (UM.row rows i) = false → (UM.S toll n rows (i + 1)).sums = UM.grown (UM.S toll n rows i) (UM.row rows i) ∧ eds toll n rows (i + 1) = eds toll n rows i := fun q => by
          refine ⟨?_, ?_⟩
          · show (if UM.ending toll n (UM.S toll n rows i) (UM.row rows i) = true then _ else _) = _
            rw [q, if_neg Bool.false_ne_true]
          · rw [eds_succ]
            unfold UM.ended
            rw [q, if_neg Bool.false_ne_true, List.append_nil]
        have sum1 : UM.ending toll n (UM.S toll n rows i) (UM.row rows i) = true → (UM.S toll n rows (i + 1)).sums = List.replicate n 0 ∧ eds toll n rows (i + 1) = eds toll n rows i ++ [i] := fun q => by
          refine ⟨?_, ?_⟩
          · show (if UM.ending toll n (UM.S toll n rows i) (UM.row rows i) = true then _ else _) = _
            rw [q, if_pos rfl]
          · rw [eds_succ]
            unfold UM.ended
            rw [q, if_pos rfl]
        have hat : atI ((UM.grown (UM.S toll n rows i) (UM.row rows i)).map V.int) (((UM.S toll n rows i).kind : Nat) : Int) = some (.int (UM.at0 (UM.grown (UM.S toll n rows i) (UM.row rows i)) (UM.S toll n rows i).kind)) := at_ints (by rw [hgl]; exact hok.k)
        walk_at "rd"
        refine r_ixL (SqL.of h6) hat ?_
        walk_at "rd"
        refine ifB (fun b1 => ?_) (fun b1 => ?_)
        · have c1 := of_decide_eq_true b1
          walk_at "rd"
          refine ⟨D, _, rfl, .inl (SqL.of h6), hgne, ?_⟩
          walk_at "rd"
          refine ifB (fun b2 => ?_) (fun b2 => ?_)
          · have c2 := of_decide_eq_true b2
            obtain ⟨ok1, ok2⟩ := UM.own_go hgl hgne c1 c2
            obtain ⟨s1, s2⟩ := sum0 ok2
            walk_at "rd"
            refine ⟨.inl ⟨rfl, _, SqL.of h6⟩, ?_⟩
            walk_at "rd"
            refine ⟨D, _, rfl, .inl (SqL.of h6), hgne, ?_⟩
            walk_at "rd"
            obtain ⟨hj, hj1, hj2⟩ := first_idx (lmin_mem hgne)
            refine ⟨D, _, _, _, _, rfl, rfl, SqL.of h6, rfl, flat_ints _, hj1, beq_self_eq_true _, hj2, ?_⟩
            rw [← ok1, keep]
            refine tail _ _ ⟨D, pe, rfl, e9, by rw [s1]; exact h6, hDF, hDST, hF9, hpc9, by rw [s2]; exact hpe9, hST9, hss9⟩
          · have c2 := of_decide_eq_false b2
            obtain ⟨ok1, ok2⟩ := UM.own_end hgl hgne hrl hrne c1 c2
            obtain ⟨s1, s2⟩ := sum1 ok2
            walk_at "rd"
            refine r_ixL (SqL.of h6) hat ?_
            walk_at "rd"
            refine ifB (fun b3 => ?_) (fun b3 => nomatch (b1.symm.trans b3))
            walk_at "rd"
            refine r_ixT hsr9 (at_ints (by rw [hrl]; exact hok.k)) ?_
            walk_at "rd"
            refine ⟨br, _, rfl, .inr hsr9, hrne, ?_⟩
            walk_at "rd"
            refine r_eqi ?_
            refine r_ifV (v := .int (((UM.S toll n rows (i + 1)).kind : Nat) : Int)) (fun c R q => ?_) (fun c R q => ?_) ?_
            · have c3 := of_decide_eq_true c
              walk_at "rd"
              have : (UM.S toll n rows (i + 1)).kind = (UM.S toll n rows i).kind := by
                rw [← keep, ok1]
                exact if_pos c3
              rw [← this]
              exact q
            · have c3 := of_decide_eq_false c
              walk_at "rd"
              refine ⟨⟨br, rfl, hpl9⟩, ?_⟩
              walk_at "rd"
              refine ⟨br, _, rfl, .inr hsr9, hrne, ?_⟩
              walk_at "rd"
              obtain ⟨hj, hj1, hj2⟩ := first_idx (lmin_mem hrne)
              refine ⟨br, _, _, _, _, rfl, rfl, hsr9, rfl, flat_ints _, hj1, beq_self_eq_true _, hj2, ?_⟩
              have : (UM.S toll n rows (i + 1)).kind = (UM.row rows i).idxOf (lmin (UM.row rows i)) := by
                rw [← keep, ok1]
                exact if_neg c3
              rw [← this]
              exact q
            walk_at "rd"
            refine ⟨Nat.le_of_lt (small_line (by show 1 ≤ 1000000; decide)), fun L2 hL2 => ?_⟩
            have m1 := ex_new (o := .lst [V.int 0]) hL2
            walk_at "rd"
            refine ⟨L2, n, [V.int 0], rfl, rfl, upd_same, by omega, by omega, Nat.le_of_lt (small_line (by show 1 * (n : Int).toNat ≤ 1000000; omega)), fun S2 hS2 => ?_⟩
            rw [Int.toNat_natCast, rep_flat]
            have m2 := ex_newT (o := .lst (List.replicate n (V.int 0))) m1 hS2
            have hS2F : S2 ≠ F := (ne_of_none (m1 _ _ hF9) hS2).symm
            have hS2ST : S2 ≠ ST := (ne_of_none (m1 _ _ hST9) hS2).symm
            walk_at "rd"
            refine r_ixL (xs := [.ref pc, .int (UM.S toll n rows i).paid, .ref pe, .ref ST]) (SqL.of (m2 _ _ hF9)) (atI_nat (j := 2) rfl) ?_
            walk_at "rd"
            refine ⟨Nat.le_of_lt (small_line (by show 1 ≤ 1000000; decide)), fun z hz => ?_⟩
            have m3 := ex_new (o := .tup [V.int (i : Int)]) hz
            have m23 := Evl.Ex.trans m2 m3
            walk_at "rd"
            refine r_catA ((ex_sb m23).t _ _ hpe9) (SqT.of upd_same) (by rw [List.length_map]; have := eds_len (toll := toll) (n := n) (rows := rows) (i := i); omega) fun q H7 m4 hq7 => ?_
            have m34 := Evl.Ex.trans m3 m4
            have m24 := Evl.Ex.trans m2 m34
            have hF7 := m24 _ _ hF9
            walk_at "rd"
            refine ⟨F, _, _, 2, rfl, rfl, hF7, rfl, ?_⟩
            refine tail _ _ ⟨S2, q, rfl, ex_chg (Evl.Ex.trans e9 m24) hF0, ?_, hS2F, hS2ST, upd_same, sqt_kp kp_self hF7 ((ex_sb m24).t _ _ hpc9), ?_, ?_, hss9.map fun p ys h => sqt_kp kp_self hF7 ((ex_sb m24).t _ _ h)⟩
            · rw [upd_ne hS2F, s1, List.map_replicate]
              exact m34 _ _ upd_same
            · rw [s2]
              have hv : vNats (eds toll n rows i ++ [i]) = vNats (eds toll n rows i) ++ [V.int (i : Int)] := by exact List.map_append
              rw [hv]
              exact sqt_kp kp_self hF7 hq7
            · rw [upd_ne hFST.symm]
              exact m24 _ _ hST9
        · have c1 := of_decide_eq_false b1
          obtain ⟨ok1, ok2⟩ := UM.own_stay c1
          obtain ⟨s1, s2⟩ := sum0 ok2
          walk_at "rd"
          refine r_ixL (SqL.of h6) hat ?_
          walk_at "rd"
          refine ifB (fun b3 => nomatch (b1.symm.trans b3)) (fun b3 => ?_)
          have ek : (UM.S toll n rows (i + 1)).kind = (UM.S toll n rows i).kind := ok1
          refine r_next <| tail _ _ ⟨D, pe, by rw [ek]; rfl, e9, by rw [s1]; exact h6, hDF, hDST, hF9, hpc9, by rw [s2]; exact hpe9, hST9, hss9⟩
    · obtain ⟨S, pc, pe, u, v, w, ss, rfl, e7, hS, hSF, hSST, hF, hpc, hpe, hST, hss⟩ := p
      walk_at "rd"
      rw [hw.len] at hF hpc hpe hss
      exact k F pc pe ST ss _ e7 hF hpc hpe hST hss
end
end PU
/-! PStep96: Under stepped along with the law's own sums. -/
namespace UM
open Ts
theorem S_sums {toll : Int} {n : Nat} {rows : List (List Int)} {M : Int} (hM : 0 ≤ M) (hb : ∀ p, p < rows.length → ∀ x ∈ row rows p, 0 ≤ x ∧ x ≤ M) : ∀ m, m ≤ rows.length → ∀ x ∈ (S toll n rows m).sums, 0 ≤ x ∧ x ≤ (m : Int) * M
  | 0, _, x, hx => by
    have e := List.eq_of_mem_replicate hx
    rw [e]
    exact ⟨Int.le_refl _, by simp⟩
  | m + 1, hm, x, hx => by
    have ih := S_sums (toll := toll) (n := n) hM hb m (by omega)
    have hnn : 0 ≤ (m : Int) * M := Int.mul_nonneg (by omega) hM
    have e1 : ((m + 1 : Nat) : Int) * M = (m : Int) * M + M := by
      rw [Int.natCast_add, Int.add_mul]
      simp
    have hx' : x ∈ if ending toll n (S toll n rows m) (row rows m) = true then List.replicate n 0 else grown (S toll n rows m) (row rows m) := hx
    rw [e1]
    split at hx'
    · have e := List.eq_of_mem_replicate hx'
      omega
    · obtain ⟨j, hj, e⟩ := List.getElem_of_mem hx'
      unfold grown at hj e
      rw [List.getElem_zipWith] at e
      have hj1 : j < (S toll n rows m).sums.length := by
        rw [List.length_zipWith] at hj
        omega
      have hj2 : j < (row rows m).length := by
        rw [List.length_zipWith] at hj
        omega
      have h1 := ih _ (List.getElem_mem hj1)
      have h2 := hb m (by omega) _ (List.getElem_mem hj2)
      omega
end UM
namespace PU
open PySem PySem.Spec PyProof.Rows L2 Ts K96
local macro_rules | `(tactic| walk_at "rd1") => `(tactic| first
  | with_reducible refine r_seq ?_ | with_reducible refine r_ret ?_ | with_reducible refine r_asg ?_ | with_reducible refine r_drop ?_ | with_reducible refine r_ifS ?_ | with_reducible refine r_next ?_
  | (with_reducible refine r_varE ?_; refine ⟨_, rfl, ?_⟩) | with_reducible refine r_c ?_ | with_reducible refine r_op ?_ | with_reducible refine r_I0 ?_ | (with_reducible refine r_eq ?h1 ?_; (case h1 => exact rfl)) | (with_reducible refine r_ne ?h1 ?_; (case h1 => exact rfl))
  | with_reducible refine r_nil ?_ | with_reducible refine r_cons ?_ | with_reducible refine r_cb ?_ | with_reducible refine r_call ?_ | with_reducible refine r_test ?_ | with_reducible refine r_tB ?_ | with_reducible refine r_bll ?_ | with_reducible refine r_int ?_
  | with_reducible refine r_not ?_ | with_reducible refine r_and ?_ | with_reducible refine r_or ?_ | with_reducible refine r_if ?_ | with_reducible refine r_isa ?_ | with_reducible refine r_tup ?_ | with_reducible refine r_lst ?_
  | with_reducible refine r_for ?_ | with_reducible refine r_iTup ?_ | with_reducible refine r_iList ?_ | with_reducible refine r_rng1 ?_ | with_reducible refine r_rng2 ?_ | with_reducible refine r_zipA ?_ | with_reducible refine r_enT ?_ | with_reducible refine r_zipM ?_ | with_reducible refine r_bmG ?_ | with_reducible refine r_enL ?_ | with_reducible refine r_revA ?_
  | (with_reducible refine r_augE ?_; refine ⟨_, rfl, ?_⟩) | with_reducible refine r_ipI ?_ | with_reducible refine r_rAdd ?_ | with_reducible refine r_bm ?_ | with_reducible refine r_bm0 ?_ | with_reducible refine r_gn ?_ | with_reducible refine r_asgG ?_
  | with_reducible refine r_sl ?_ | with_reducible refine r_nop ?_ | with_reducible refine r_part ?_ | with_reducible refine r_chain ?_ | with_reducible refine r_un ?_ | with_reducible refine r_rU ?_ | with_reducible refine r_fldE ?_ | with_reducible refine r_sfld ?_ | with_reducible refine r_sfldaug ?_ | with_reducible refine r_lstRg ?_ | with_reducible refine r_rg1 ?_ | with_reducible refine r_dget ?_ | with_reducible refine r_dput ?_ | with_reducible refine r_disp ?_ | with_reducible refine r_gsub ?_ | with_reducible refine r_pairC ?_ | with_reducible refine r_pairN ?_ | with_reducible refine r_meth ?_ | with_reducible refine r_make ?_ | with_reducible refine iteT ?_ | with_reducible refine iteF ?_)
local macro_rules | `(tactic| walk_at "rd") => `(tactic| repeat walk_at "rd1")

abbrev dStep (k : Int) (sums : List Int) (paid ph : Int) : PyData := .tuple [.int k, dInts sums, .int paid, .int ph]
abbrev dStep5 (k : Int) (sums : List Int) (paid ph : Int) : PyData := .tuple [.int k, .int k, dInts sums, .int paid, .int ph]
theorem dp_step {K : PySem.W.Frag} {H : Hp} {t q : Addr} {k paid ph : Int} {sums : List Int} (ht : SqT K H t [.int k, .ref q, .int paid, .int ph]) (hq : SqT K H q (sums.map V.int)) : Dp K H (.ref t) (dStep k sums paid ph) :=
  .tup ht (.cons (.int _) (.cons (dp_of_ints hq) (.cons (.int _) (.cons (.int _) .nil))))
theorem dp_step5 {K : PySem.W.Frag} {H : Hp} {t q : Addr} {k paid ph : Int} {sums : List Int} (ht : SqT K H t [.int k, .int k, .ref q, .int paid, .int ph]) (hq : SqT K H q (sums.map V.int)) : Dp K H (.ref t) (dStep5 k sums paid ph) :=
  .tup ht (.cons (.int _) (.cons (.int _) (.cons (dp_of_ints hq) (.cons (.int _) (.cons (.int _) .nil)))))
theorem small31 {i : Int} (h0 : 0 ≤ i) (h1 : i ≤ 1000000000) : decide (i.natAbs < 10 ^ 31) = true := decide_eq_true (by omega)
structure SmallS (k : Int) (sums : List Int) (paid ph : Int) : Prop where
  k0 : 0 ≤ k ∧ k ≤ 1000000000
  s0 : ∀ x ∈ sums, 0 ≤ x ∧ x ≤ 1000000000
  sl : sums.length ≤ 1000
  p0 : 0 ≤ paid ∧ paid ≤ 1000000000
  h0 : 0 ≤ ph ∧ ph ≤ 1000000000
theorem rep_step {K : PySem.W.Frag} {H : Hp} {Q : VK} {x : V} {k paid ph : Int} {sums : List Int} (hd : Dp K H x (dStep k sums paid ph)) (s : SmallS k sums paid ph) (q : Q (.str (dStep k sums paid ph).shown) H) : rRepD K [x] H Q := by
  refine r_rep hd ?_ ?_ ?_ q
  · show (decide (k.natAbs < 10 ^ 31) && (okRs (sums.map PyData.int) && (decide (paid.natAbs < 10 ^ 31) && (decide (ph.natAbs < 10 ^ 31) && true)))) = true
    rw [small31 s.k0.1 s.k0.2, small31 s.p0.1 s.p0.2, small31 s.h0.1 s.h0.2, okR_ints _ fun x hx => of_decide_eq_true (small31 (s.s0 x hx).1 (s.s0 x hx).2)]
    rfl
  · show ((32 + 2) + ((wtRs (sums.map PyData.int) + 4 + 2) + ((32 + 2) + ((32 + 2) + 0)))) + 4 ≤ 16000000
    rw [wtR_ints]
    have := s.sl
    omega
  · show (max 0 (max (PyData.depthAll (sums.map PyData.int) + 1) (max 0 (max 0 0)))) + 1 ≤ 50
    rw [dep_ints]
    decide
theorem rep_step5 {K : PySem.W.Frag} {H : Hp} {Q : VK} {x : V} {k paid ph : Int} {sums : List Int} (hd : Dp K H x (dStep5 k sums paid ph)) (s : SmallS k sums paid ph) (q : Q (.str (dStep5 k sums paid ph).shown) H) : rRepD K [x] H Q := by
  refine r_rep hd ?_ ?_ ?_ q
  · show (decide (k.natAbs < 10 ^ 31) && (decide (k.natAbs < 10 ^ 31) && (okRs (sums.map PyData.int) && (decide (paid.natAbs < 10 ^ 31) && (decide (ph.natAbs < 10 ^ 31) && true))))) = true
    rw [small31 s.k0.1 s.k0.2, small31 s.p0.1 s.p0.2, small31 s.h0.1 s.h0.2, okR_ints _ fun x hx => of_decide_eq_true (small31 (s.s0 x hx).1 (s.s0 x hx).2)]
    rfl
  · show ((32 + 2) + ((32 + 2) + ((wtRs (sums.map PyData.int) + 4 + 2) + ((32 + 2) + ((32 + 2) + 0))))) + 4 ≤ 16000000
    rw [wtR_ints]
    have := s.sl
    omega
  · show (max 0 (max 0 (max (PyData.depthAll (sums.map PyData.int) + 1) (max 0 (max 0 0))))) + 1 ≤ 50
    rw [dep_ints]
    decide
theorem S_small {toll : Int} {n : Nat} {rows : List (List Int)} (o : Okc toll n rows) {i : Nat} (hi : i ≤ rows.length) : SmallS (((UM.S toll n rows i).kind : Nat) : Int) (UM.S toll n rows i).sums (UM.S toll n rows i).paid (((UM.S toll n rows i).phases : Nat) : Int) := by
  have hm := o.m
  have n5 := o.n2
  have t1 := o.g.t1
  have t2 := o.t2
  have hok := UM.S_ok o.g i hi
  have hk := hok.k
  refine ⟨⟨by omega, by omega⟩, fun x hx => ?_, by rw [hok.l]; omega, ?_, ⟨by omega, ?_⟩⟩
  · have h := UM.S_sums (toll := toll) (n := n) (rows := rows) (M := 1000000) (by omega) (fun p hp x hx => by
      have := o.top _ (row_mem hp) x hx
      omega) i hi x hx
    omega
  · have hb := UM.C_bounds (toll := toll) (rows := rows) (c := fun p => (UM.S toll n rows (p + 1)).kind) (M := 1000000) (by omega) (fun p hp => by
      have h1 := o.top _ (row_mem hp)
      have h2 := o.g.len p hp
      have h3 := (UM.S_ok o.g (p + 1) (by omega)).k
      have h4 : UM.at0 (UM.row rows p) (UM.S toll n rows (p + 1)).kind ∈ UM.row rows p := by
        unfold UM.at0
        rw [List.getD_eq_getElem?_getD, List.getElem?_eq_getElem (by omega)]
        exact List.getElem_mem _
      have := h1 _ h4
      omega) i hi
    rw [UM.S_paid] at hb
    refine ⟨hb.1, Int.le_trans hb.2 ?_⟩
    have h5 : ((i : Nat) : Int) * (1000000 + toll) ≤ 120 * (1000000 + toll) := Int.mul_le_mul_of_nonneg_right (by omega) (by omega)
    omega
  · rw [phases_eds]
    have := eds_len (toll := toll) (n := n) (rows := rows) (i := i)
    omega
def sp_law_stepped96 (K : PySem.W.Frag) : Sp := fun vs H Q _ => ∃ (a st : Addr) (xs ss : List V) (toll : Int) (n : Nat) (rows : List (List Int)), vs = [.ref a, .int toll, .int (n : Int), .ref st] ∧ SqT K H a xs ∧ Rws K H xs rows ∧ Okc toll n rows ∧
  H st = some (.lst ss) ∧ StepsAt K H toll n rows ss rows.length ∧ ∀ H', Ex H H' → Q (.bl true) H'
section
variable {P : Program} {w : World} {K : PySem.W.Frag} {mg : Str → Option Value} {base : Heap}
theorem sc_law_stepped : FnScope ["_law_costs_here", "_law_toll_here", "_law_many", "_law_due", "_law_some", "_law_row", "_law_one", "_law_kind"] ["_law_costs_here", "_law_toll_here", "_law_many", "_law_due"] (defScope slaw_stepped) := ⟨rfl, rfl, rfl, by decide +kernel, rfl, by decide +kernel, by decide +kernel⟩
theorem ok_law_stepped (T : Tx fa fn K mg) : GFn P w K mg base 6 (He.fAd K dlaw_stepped.at_) ["_law_costs_here", "_law_toll_here", "_law_many", "_law_due"] (sp_law_stepped96 K) := by
  obtain ⟨fd, F⟩ := T.says.def_ 29 (d := dlaw_stepped) rfl
  refine ok0 F sc_law_stepped (fun vs H Q E h => ?_) (fun _ _ _ _ _ _ us hl => match us, hl with | [_, _, _, _], _ => rfl) (fun cdv A outer s H vs Q E hr h => ?_)
  · obtain ⟨a, st, xs, ss, toll, n, rows, rfl, _⟩ := h
    rfl
  · obtain ⟨a, st, xs, ss, toll, n, rows, rfl, hq, hw, o, hst, hss, k⟩ := h
    have n1 := o.g.n1
    have n5 := o.n2
    have hm := o.m
    have t1 := o.g.t1
    have t2 := o.t2
    refine ⟨_, (pss_cons (ps_set (i := 4) sc_law_stepped.nd rfl (Or.inl rfl) (gk (T.mkr 46) (ok_Under_init T) (hr.mono (by decide)) (T.g 35) pn (pa_cons (pv 2) (pa_cons (pv 1) pa_nil))))
      (pss_cons (ps_if (pt_cmpR op_ne (pe_callB (cRepr K hr.gd hr.rm.units) (by rfl) (T.b 68) (by decide +kernel) (pa_cons (pe_tup (pa_cons (fldK K (pv 4) rfl) (pa_cons (fldK K (pv 4) rfl) (pa_cons (fldK K (pv 4) rfl) (pa_cons (fldK K (pv 4) rfl) pa_nil))))) pa_nil)) (pe_callB (cRepr K hr.gd hr.rm.units) (by rfl) (T.b 68) (by decide +kernel) (pa_cons (pe_tup (pa_cons pe_int (pa_cons (pe_op (mulT K) (pe_tup (pa_cons pe_int pa_nil)) (pv 2)) (pa_cons pe_int (pa_cons pe_int pa_nil))))) pa_nil)) (nomark _)) (pss_one (ps_ret pe_bl)) pss_nil)
      (pss_cons (ps_for (by first | exact PassesOwn.never | exact passes_of rfl) rfl (pi_zipM true false K rfl (T.b 74) (pa_cons (pv 0) (pa_cons (pv 3) pa_nil))) (gtupK K (n := 2) rfl (pgs_cons (pg_name (i := 5) sc_law_stepped.nd rfl (Or.inl rfl)) (pgs_cons (pg_name (i := 6) sc_law_stepped.nd rfl (Or.inl rfl)) pgs_nil))) (pss_cons (ps_set (i := 7) sc_law_stepped.nd rfl (Or.inl rfl) (gm (ok_Under_step T) (hr.mono (by decide)) (T.cls 45) (T.meth 55) pn (pv 4) (pa_cons (pv 5) pa_nil)))
      (pss_one (ps_if (pt_cmpR op_ne (pe_callB (cRepr K hr.gd hr.rm.units) (by rfl) (T.b 68) (by decide +kernel) (pa_cons (pe_tup (pa_cons (pv 7) (pa_cons (fldK K (pv 4) rfl) (pa_cons (fldK K (pv 4) rfl) (pa_cons (fldK K (pv 4) rfl) (pa_cons (fldK K (pv 4) rfl) pa_nil)))))) pa_nil)) (pe_callB (cRepr K hr.gd hr.rm.units) (by rfl) (T.b 68) (by decide +kernel) (pa_cons (pe_op (ctT K) (pe_tup (pa_cons (pe_ix (ixT K) (pv 6) pe_int (fun _ _ => rfl)) pa_nil)) (pv 6)) pa_nil)) (nomark _)) (pss_one (ps_ret pe_bl)) pss_nil))))
      (pss_one (ps_ret pe_bl))))), ?_⟩
    walk_at "rd"
    intro ob dx ha hdx hne
    have e3 : Ex H (upd (upd _ dx (.own ob)) ob (.ins (He.ga K "Under") dx [])) := ex_newT (ex_new hdx) (by rw [upd_ne hne.symm]; exact ha)
    refine ⟨ob, n, toll, dx, rfl, upd_same, n1, n5, t1, t2, fun H2 p0 k2 u2 => ⟨rfl, ?_⟩⟩
    have e4 := ex_kp e3 ha k2
    walk_at "rd"
    refine f_kind T u2 ?_
    walk_at "rd"
    refine f_sums T u2 ?_
    walk_at "rd"
    refine f_paid T u2 ?_
    walk_at "rd"
    refine f_phases T u2 ?_
    walk_at "rd"
    refine ⟨Nat.le_of_lt (small_line (by show 4 ≤ 1000000; decide)), fun t ht => ?_⟩
    have m1 := ex_new (o := .tup [V.int (((UM.st0 n).kind : Nat) : Int), .ref p0, .int (UM.st0 n).paid, .int (((UM.st0 n).phases : Nat) : Int)]) ht
    walk_at "rd"
    refine rep_step (dp_step (SqT.of upd_same) ((ex_sb m1).t _ _ u2.sm)) (S_small o (i := 0) (Nat.zero_le _)) ?_
    walk_at "rd"
    refine ⟨Nat.le_of_lt (small_line (by show 1 ≤ 1000000; decide)), fun z hz => ?_⟩
    have m2 := ex_newT (o := .tup [V.int 0]) m1 hz
    walk_at "rd"
    refine r_mul (SqT.of upd_same) n1 (by omega) fun q H3 m3 hq3 => ?_
    walk_at "rd"
    refine ⟨Nat.le_of_lt (small_line (by show 4 ≤ 1000000; decide)), fun t' ht' => ?_⟩
    have m4 := ex_new (o := .tup [V.int 0, .ref q, .int 0, .int 0]) ht'
    walk_at "rd"
    refine rep_step (k := (((UM.st0 n).kind : Nat) : Int)) (sums := (UM.st0 n).sums) (paid := (UM.st0 n).paid) (ph := (((UM.st0 n).phases : Nat) : Int)) (dp_step (SqT.of upd_same) ?_) (S_small o (i := 0) (Nat.zero_le _)) ?_
    · refine (ex_sb m4).t _ _ ?_
      show SqT K H3 q ((List.replicate n (0 : Int)).map V.int)
      rw [List.map_replicate]
      exact hq3
    refine r_ne rfl ?_
    rw [decide_eq_true rfl]
    refine ⟨_, rfl, iteF ?_⟩
    have e5 := Evl.Ex.trans e4 (Evl.Ex.trans (Evl.Ex.trans m2 m3) m4)
    have u5 := u2.ex (Evl.Ex.trans (Evl.Ex.trans m2 m3) m4)
    walk_at "rd"
    have hlen : xs.length = ss.length := by rw [hw.len, hss.len]
    refine ⟨a, st, xs, ss, rfl, (ex_sb e5).t _ _ hq, SqL.of (e5 _ _ hst), ?_⟩
    refine forW (walk_zipM (K := K) (b1 := true) (b2 := false) (a := a) (b := st) hlen) (fun i σ H' => ∃ u v w p, σ = [some (.ref a), some (.int toll), some (.int (n : Int)), some (.ref st), some (.ref ob), u, v, w] ∧ Ex H H' ∧ UnAt K H' ob n toll (UM.S toll n rows i) p)
      ⟨_, _, _, p0, rfl, e5, u5⟩ (fun i σ H' _ p => ?_) (fun i z σ H6 H7 hi p y => ?_) (fun σ H' p => ?_)
    · obtain ⟨u, v, w, p, rfl, e6, _⟩ := p
      exact ⟨(ex_sb e6).t _ _ hq, SqL.of (e6 _ _ hst)⟩
    · obtain ⟨u, v, w, p, rfl, e6, u6⟩ := p
      obtain ⟨T', r, d, rfl, hT, rfl, hr1, hd1⟩ := y
      have him : i < rows.length := by rw [← hw.len]; exact hi
      obtain ⟨br, hbr, hsr⟩ := hw.get i _ (row_get him)
      have er : r = .ref br := Option.some.inj (hr1.symm.trans hbr)
      subst er
      obtain ⟨bt, bq, hbt, hst4, hsq⟩ := hss.get i him
      have ed : d = .ref bt := Option.some.inj (hd1.symm.trans hbt)
      subst ed
      have n8 := ex_new (o := .tup [V.ref br, .ref bt]) hT
      have e8 := Evl.Ex.trans e6 n8
      have u8 := u6.ex n8
      refine r_pair (SqT.of upd_same) ?_
      walk_at "rd"
      refine m_under u8 (by rfl) ?_
      walk_at "rd"
      refine ⟨ob, n, toll, _, p, br, UM.row rows i, rfl, u8, (ex_sb e8).t _ _ hsr, ⟨o.g.len i him, fun x hx => o.top _ (row_mem him) x hx⟩, n5, UM.S_ok o.g i (by omega), fun H9 p9 k9 u9 => ?_⟩
      have e9 := ex_kp e8 ha k9
      have u9' : UnAt K H9 ob n toll (UM.S toll n rows (i + 1)) p9 := u9
      walk_at "rd"
      refine f_kind T u9' ?_
      walk_at "rd"
      refine f_sums T u9' ?_
      walk_at "rd"
      refine f_paid T u9' ?_
      walk_at "rd"
      refine f_phases T u9' ?_
      walk_at "rd"
      refine ⟨Nat.le_of_lt (small_line (by show 5 ≤ 1000000; decide)), fun t5 ht5 => ?_⟩
      have m5 := ex_new (o := .tup [V.int (((UM.S toll n rows (i + 1)).kind : Nat) : Int), V.int (((UM.S toll n rows (i + 1)).kind : Nat) : Int), .ref p9, .int (UM.S toll n rows (i + 1)).paid, .int (((UM.S toll n rows (i + 1)).phases : Nat) : Int)]) ht5
      have sm := S_small o (i := i + 1) him
      walk_at "rd"
      refine rep_step5 (k := (((UM.S toll n rows (i + 1)).kind : Nat) : Int)) (dp_step5 (SqT.of upd_same) ((ex_sb m5).t _ _ u9'.sm)) sm ?_
      have e10 := Evl.Ex.trans e9 m5
      walk_at "rd"
      refine r_ixT ((ex_sb e10).t _ _ hst4) (atI_nat (j := 0) rfl) ?_
      walk_at "rd"
      refine ⟨Nat.le_of_lt (small_line (by show 1 ≤ 1000000; decide)), fun z hz => ?_⟩
      have m6 := ex_new (o := .tup [V.int (((UM.S toll n rows (i + 1)).kind : Nat) : Int)]) hz
      have e11 := Evl.Ex.trans e10 m6
      walk_at "rd"
      refine ⟨z, bt, _, _, rfl, rfl, SqT.of upd_same, (ex_sb e11).t _ _ hst4, (fun q => nomatch q), Nat.le_of_lt (small_line (by show 1 + 4 ≤ 1000000; decide)), (fun q => nomatch q), fun _ z2 hz2 => ?_⟩
      have m7 := ex_new (o := .tup ([V.int (((UM.S toll n rows (i + 1)).kind : Nat) : Int)] ++ [V.int (((UM.S toll n rows (i + 1)).kind : Nat) : Int), .ref bq, .int (UM.S toll n rows (i + 1)).paid, .int (((UM.S toll n rows (i + 1)).phases : Nat) : Int)])) hz2
      have e12 := Evl.Ex.trans e11 m7
      walk_at "rd"
      refine rep_step5 (dp_step5 (SqT.of upd_same) ((ex_sb e12).t _ _ hsq)) sm ?_
      refine r_ne rfl ?_
      rw [decide_eq_true rfl]
      refine ⟨_, rfl, iteF ?_⟩
      walk_at "rd"
      exact ⟨_, _, _, p9, rfl, e12, u9'.ex (Evl.Ex.trans m5 (Evl.Ex.trans m6 m7))⟩
    · obtain ⟨u, v, w, p, rfl, e6, u6⟩ := p
      walk_at "rd"
      exact k _ e6
end
end PU
/-! PChoices96: the law's choices. -/
namespace Ts
open PySem PySem.Spec PyProof.Rows L2
theorem r_par {i j : Nat} {ta : TA} {D : Ends} {σ : L2.St} {H : Hp} (h : ta σ H fun vs H1 => ∃ v w, vs = [v, w] ∧ D.nx ((σ.set i (some v)).set j (some w)) H1) : tPar i j ta D σ H := h
end Ts
namespace PU
open PySem PySem.Spec PyProof.Rows L2 Ts K96
local macro_rules | `(tactic| walk_at "rd1") => `(tactic| first
  | with_reducible refine r_seq ?_ | with_reducible refine r_ret ?_ | with_reducible refine r_asg ?_ | with_reducible refine r_drop ?_ | with_reducible refine r_ifS ?_ | with_reducible refine r_next ?_
  | (with_reducible refine r_varE ?_; refine ⟨_, rfl, ?_⟩) | with_reducible refine r_c ?_ | with_reducible refine r_op ?_ | with_reducible refine r_I0 ?_ | (with_reducible refine r_eq ?h1 ?_; (case h1 => exact rfl)) | (with_reducible refine r_ne ?h1 ?_; (case h1 => exact rfl))
  | with_reducible refine r_nil ?_ | with_reducible refine r_cons ?_ | with_reducible refine r_cb ?_ | with_reducible refine r_call ?_ | with_reducible refine r_test ?_ | with_reducible refine r_tB ?_ | with_reducible refine r_bll ?_ | with_reducible refine r_int ?_
  | with_reducible refine r_not ?_ | with_reducible refine r_and ?_ | with_reducible refine r_or ?_ | with_reducible refine r_if ?_ | with_reducible refine r_isa ?_ | with_reducible refine r_tup ?_ | with_reducible refine r_lst ?_
  | with_reducible refine r_for ?_ | with_reducible refine r_iTup ?_ | with_reducible refine r_iList ?_ | with_reducible refine r_rng1 ?_ | with_reducible refine r_rng2 ?_ | with_reducible refine r_zipA ?_ | with_reducible refine r_enT ?_ | with_reducible refine r_zipM ?_ | with_reducible refine r_bmG ?_ | with_reducible refine r_enL ?_ | with_reducible refine r_revA ?_
  | (with_reducible refine r_augE ?_; refine ⟨_, rfl, ?_⟩) | with_reducible refine r_ipI ?_ | with_reducible refine r_rAdd ?_ | with_reducible refine r_bm ?_ | with_reducible refine r_bm0 ?_ | with_reducible refine r_gn ?_ | with_reducible refine r_asgG ?_
  | with_reducible refine r_sl ?_ | with_reducible refine r_nop ?_ | with_reducible refine r_part ?_ | with_reducible refine r_chain ?_ | with_reducible refine r_un ?_ | with_reducible refine r_rU ?_ | with_reducible refine r_fldE ?_ | with_reducible refine r_sfld ?_ | with_reducible refine r_sfldaug ?_ | with_reducible refine r_lstRg ?_ | with_reducible refine r_rg1 ?_ | with_reducible refine r_dget ?_ | with_reducible refine r_dput ?_ | with_reducible refine r_disp ?_ | with_reducible refine r_gsub ?_ | with_reducible refine r_pairC ?_ | with_reducible refine r_pairN ?_ | with_reducible refine r_meth ?_ | with_reducible refine r_make ?_ | with_reducible refine iteT ?_ | with_reducible refine iteF ?_)
local macro_rules | `(tactic| walk_at "rd") => `(tactic| repeat walk_at "rd1")

/-- over a range, what is told of each element kept -/
theorem lcR_new {K : PySem.W.Frag} {σ : L2.St} {H : Hp} {Q : VK} {tl te : TE} {j : Nat} {vs : List Nat} {n : Nat} (ok : Hp → V → Prop) (hok : ∀ H' H'' v, (∀ p ys, SqT K H' p ys → SqT K H'' p ys) → ok H' v → ok H'' v)
    (hn : n ≤ 1000000) (h : Val tl σ H (.int (n : Int))) (hw : ∀ x, wipe ((wipe σ vs).set j (some x)) vs = wipe σ vs)
    (ht : ∀ i, i < n → ∀ H', Ex H H' → ∀ R : VK, (∀ v H2, Ex H' H2 → ok H2 v → R v H2) → te ((wipe σ vs).set j (some (.int (i : Int)))) H' R)
    (k : ∀ D H' us, H D = none → Ex H H' → H' D = some (.lst us) → us.length = n → (∀ v ∈ us, ok H' v) → Q (.ref D) H') : tLc (iRng1 (tCons tl tNil)) (gName j) tYes te vs σ H Q := by
  refine h _ ⟨n, rfl, by omega, by omega, fun D hD => ?_⟩
  rw [Int.toNat_natCast]
  refine lc_it (walk_range (lo := 0) (n := n)) (fun i H' => Ex H H' ∧ ∃ us, H' D = some (.lst us) ∧ us.length = i ∧ ∀ v ∈ us, ok H' v) ⟨ex_new hD, [], upd_same, rfl, fun v m => nomatch m⟩ (fun _ _ _ _ => trivial) (fun i x H1 H2 hi p y => ?_) (fun H' p => ?_)
  · obtain ⟨e, us, h1, hl, ho⟩ := p
    obtain ⟨rfl, rfl⟩ := y
    have ez : (0 : Int) + (i : Int) = (i : Int) := Int.zero_add _
    show gName j (V.int ((0 : Int) + (i : Int))) _ _ _
    rw [ez]
    refine ⟨hw _, yes_if (ht i hi _ e _ fun v H3 e3 hv => ?_)⟩
    have h3 := e3 _ _ h1
    refine ⟨us, h3, by rw [hl]; exact small_line (by omega), ex_chg (Evl.Ex.trans e e3) hD, us ++ [v], upd_same, by simp [hl], fun u hu => ?_⟩
    rcases List.mem_append.mp hu with q | q
    · exact hok _ _ u (fun p ys h => sqt_kp kp_self h3 ((ex_sb e3).t _ _ h)) (ho u q)
    · rw [List.mem_singleton.mp q]
      exact hok _ _ v (fun p ys h => sqt_kp kp_self h3 h) hv
  · obtain ⟨e, us, h1, hl, ho⟩ := p
    exact k D H' us hD e h1 hl ho
/-- a choice -/
def Ch1 (K : PySem.W.Frag) (n : Nat) (rows : List (List Int)) (H : Hp) (v : V) : Prop := ∃ b c, v = .ref b ∧ SqT K H b (vNats c) ∧ Okch n rows c
theorem Ch1.map {K : PySem.W.Frag} {n : Nat} {rows : List (List Int)} {H H' : Hp} {v : V} (t : ∀ p ys, SqT K H p ys → SqT K H' p ys) (h : Ch1 K n rows H v) : Ch1 K n rows H' v := by
  obtain ⟨b, c, e, hb, hc⟩ := h
  exact ⟨b, c, e, t _ _ hb, hc⟩
def ChsAt (K : PySem.W.Frag) (n : Nat) (rows : List (List Int)) (H : Hp) (ds : List V) : Prop := ∀ v ∈ ds, Ch1 K n rows H v
theorem ChsAt.map {K : PySem.W.Frag} {n : Nat} {rows : List (List Int)} {H H' : Hp} {ds : List V} (t : ∀ p ys, SqT K H p ys → SqT K H' p ys) (h : ChsAt K n rows H ds) : ChsAt K n rows H' ds := fun v m => (h v m).map t
theorem ChsAt.app {K : PySem.W.Frag} {n : Nat} {rows : List (List Int)} {H : Hp} {ds es : List V} (h : ChsAt K n rows H ds) (h2 : ChsAt K n rows H es) : ChsAt K n rows H (ds ++ es) := fun v m => by
  rcases List.mem_append.mp m with q | q
  · exact h v q
  · exact h2 v q
theorem ChsAt.one {K : PySem.W.Frag} {n : Nat} {rows : List (List Int)} {H : Hp} {v : V} (h : Ch1 K n rows H v) : ChsAt K n rows H [v] := fun u m => by
  rw [List.mem_singleton.mp m]
  exact h
def sp_law_choices96 (K : PySem.W.Frag) : Sp := fun vs H Q _ => ∃ (s c a tl : Addr) (ns : List Int) (xs cs : List V) (toll : Int) (n : Nat) (rows : List (List Int)), vs = [.ref s, .ref a, .int (n : Int), .ref tl] ∧ StAt K H s c ns ∧ SqT K H a xs ∧ Rws K H xs rows ∧ Pls H xs ∧ Okc toll n rows ∧
  H tl = some (.lst cs) ∧ cs.length ≤ 20 ∧ ChsAt K n rows H cs ∧ ∀ F ds H', Kp [s] H H' → DsAt H' s c → H' F = some (.lst ds) → ChsAt K n rows H' ds → Q (.ref F) H'
section
variable {P : Program} {w : World} {K : PySem.W.Frag} {mg : Str → Option Value} {base : Heap}
theorem sc_law_choices : FnScope ["_law_state", "_law_costs_here", "_law_many", "_law_told", "_law_found", "_law_row", "_law_kind", "_law_rare", "_law_choice"] ["_law_state", "_law_costs_here", "_law_many", "_law_told"] (defScope slaw_choices) := ⟨rfl, rfl, rfl, by decide +kernel, rfl, by decide +kernel, by decide +kernel⟩
theorem ok_law_choices (T : Tx fa fn K mg) : GFn P w K mg base 2 (He.fAd K dlaw_choices.at_) ["_law_state", "_law_costs_here", "_law_many", "_law_told"] (sp_law_choices96 K) := by
  obtain ⟨fd, F⟩ := T.says.def_ 30 (d := dlaw_choices) rfl
  refine ok0 F sc_law_choices (fun vs H Q E h => ?_) (fun _ _ _ _ _ _ us hl => match us, hl with | [_, _, _, _], _ => rfl) (fun cdv A outer s H vs Q E hr h => ?_)
  · obtain ⟨s, c, a, tl, ns, xs, cs, toll, n, rows, rfl, _⟩ := h
    rfl
  · obtain ⟨st, c, a, tl, ns, xs, cs, toll, n, rows, rfl, hst, hq, hw, hp, o, htl, hcl, hcs, k⟩ := h
    have n1 := o.g.n1
    have n5 := o.n2
    have hm := o.m
    refine ⟨_, (pss_cons (ps_set (i := 4) sc_law_choices.nd rfl (Or.inl rfl) (pe_op op_cat (pv 3) (pe_lst (pa_cons (pe_callTy (cTup K) (by rfl) (T.b 73) (by decide +kernel) (pa_cons (pe_lc (own := [("_law_row", 5)]) (g := gName 5) (tt := tYes) rfl sc_law_choices.nd (piT K (pv 1)) (blkOk_by (N := ["_law_state", "_law_costs_here", "_law_many", "_law_told", "_law_found", "_law_row", "_law_kind", "_law_rare", "_law_choice"]) (sc := defScope slaw_choices) (by decide +kernel)) (fun _ _ _ _ _ => pg_name (i := 5) sc_law_choices.nd rfl (Or.inl rfl)) (fun _ _ _ _ _ => pts_nil) (fun _ _ _ _ _ => (pe_bmF PySem.F.plainAttrs_tuple PySem.F.slot_tuple_index PySem.F.type_tuple_index (mIndexT K) (pv 5) (pa_cons (pe_callB (cMin K rfl) (by rfl) (T.b 66) (by decide +kernel) (pa_cons (pv 5) pa_nil)) pa_nil)))) pa_nil)) pa_nil))))
      (pss_cons (ps_set (i := 4) sc_law_choices.nd rfl (Or.inl rfl) (pe_op op_cat (pv 4) (pe_lc (own := [("_law_kind", 6)]) (g := gName 6) (tt := tYes) rfl sc_law_choices.nd (pi_range1 rfl (T.b 67) (pa_cons (pv 2) pa_nil)) (blkOk_by (N := ["_law_state", "_law_costs_here", "_law_many", "_law_told", "_law_found", "_law_row", "_law_kind", "_law_rare", "_law_choice"]) (sc := defScope slaw_choices) (by decide +kernel)) (fun _ _ _ _ _ => pg_name (i := 6) sc_law_choices.nd rfl (Or.inl rfl)) (fun _ _ _ _ _ => pts_nil) (fun _ _ _ _ _ => (pe_op (mulN K) (pe_tup (pa_cons (pv 6) pa_nil)) (pe_callB (cLen K) (by rfl) (T.b 63) (by decide +kernel) (pa_cons (pv 1) pa_nil)))))))
      (pss_cons (ps_while (by first | exact PassesOwn.never | exact passes_of rfl) (pt_cmpR op_lt (pe_callB (cLen K) (by rfl) (T.b 63) (by decide +kernel) (pa_cons (pv 4) pa_nil)) pe_int (nomark _)) (pss_cons (ps_par (i := 6) (j := 7) rfl sc_law_choices.nd rfl rfl (by decide) rfl rfl (pa_cons (gc (ok_law_take T) (hr.mono (by decide)) (T.g 20) pn (pa_cons (pv 0) (pa_cons (pv 2) pa_nil))) (pa_cons (pe_op op_add pe_int (gc (ok_law_take T) (hr.mono (by decide)) (T.g 20) pn (pa_cons (pv 0) (pa_cons pe_int pa_nil)))) pa_nil)) (by rfl))
      (pss_cons (ps_set (i := 8) sc_law_choices.nd rfl (Or.inl rfl) (pe_tup pa_nil))
      (pss_cons (ps_for (by first | exact PassesOwn.never | exact passes_of rfl) rfl (piT K (pv 1)) (pg_name (i := 5) sc_law_choices.nd rfl (Or.inl rfl)) (pss_cons (ps_if (pt_cmpR op_eq (gc (ok_law_take T) (hr.mono (by decide)) (T.g 20) pn (pa_cons (pv 0) (pa_cons (pv 7) pa_nil))) pe_int (nomark _)) (pss_one (ps_set (i := 6) sc_law_choices.nd rfl (Or.inl rfl) (gc (ok_law_take T) (hr.mono (by decide)) (T.g 20) pn (pa_cons (pv 0) (pa_cons (pv 2) pa_nil))))) pss_nil)
      (pss_one (ps_set (i := 8) sc_law_choices.nd rfl (Or.inl rfl) (pe_op (ctA K) (pv 8) (pe_tup (pa_cons (pv 6) pa_nil)))))))
      (pss_one (ps_expr (bmK K (pe_bm PySem.F.plainAttrs_list PySem.F.slot_list_append PySem.F.type_list_append mt_append (pv 4) (pa_cons (pv 8) pa_nil)))))))))
      (pss_one (ps_ret (pv 4)))))), ?_⟩
    walk_at "rd"
    refine lcT_map (zs := rows) (fun r => V.int ((r.idxOf (lmin r) : Nat) : Int)) (val_var rfl) hq hw.len (by rw [hw.len]; omega) (fun _ => by rfl) (fun i x z hx hz H' e R q => ?_) (fun D H1 hD e1 h1 => ?_)
    · obtain ⟨br, hbr, hsr⟩ := hw.get i z hz
      have er : x = .ref br := Option.some.inj (hx.symm.trans hbr)
      subst er
      obtain ⟨b', eb, hpl⟩ := hp _ (List.mem_of_getElem? hbr)
      cases eb
      have hsr' := (ex_sb e).t _ _ hsr
      have hzl := o.row (List.mem_of_getElem? hz)
      have hne : z ≠ [] := fun q => by
        rw [q] at hzl
        have : (0 : Nat) = n := hzl
        omega
      walk_at "rd"
      refine ⟨⟨br, rfl, hpl.ex e⟩, ?_⟩
      walk_at "rd"
      refine ⟨br, _, rfl, .inr hsr', hne, ?_⟩
      walk_at "rd"
      obtain ⟨hj, hj1, hj2⟩ := first_idx (lmin_mem hne)
      refine ⟨br, _, _, _, _, rfl, rfl, hsr', rfl, flat_ints _, hj1, beq_self_eq_true _, hj2, ?_⟩
      exact q _ (Evl.Ex.refl _)
    walk_at "rd"
    refine ⟨D, _, rfl, .inl ⟨SqL.of h1, fun t ht => ?_⟩⟩
    have m1 := ex_new (o := .tup (rows.map fun r => V.int ((r.idxOf (lmin r) : Nat) : Int))) ht
    have e2 := Evl.Ex.trans e1 m1
    have hleast : Ch1 K n rows (upd H1 t (.tup (rows.map fun r => V.int ((r.idxOf (lmin r) : Nat) : Int)))) (.ref t) := by
      refine ⟨t, rows.map fun r => r.idxOf (lmin r), rfl, ?_, by rw [List.length_map], fun j hj => ?_⟩
      · refine SqT.of ?_
        rw [upd_same]
        show _ = some (HO.tup ((rows.map fun r => r.idxOf (lmin r)).map fun k : Nat => V.int (k : Int)))
        rw [List.map_map]
        rfl
      · obtain ⟨r, hr, rfl⟩ := List.mem_map.mp hj
        have hzl := o.row hr
        have hne : r ≠ [] := fun q => by
          rw [q] at hzl
          have : (0 : Nat) = n := hzl
          omega
        have := (first_idx (lmin_mem hne)).1
        omega
    walk_at "rd"
    refine ⟨Nat.le_of_lt (small_line (by show 1 ≤ 1000000; decide)), fun L hL => ?_⟩
    have m2 := ex_new (o := .lst [V.ref t]) hL
    have e3 := Evl.Ex.trans e2 m2
    walk_at "rd"
    refine ⟨tl, L, cs, [V.ref t], rfl, rfl, e3 _ _ htl, upd_same, Nat.le_of_lt (small_line (by show cs.length + 1 ≤ 1000000; omega)), fun F1 hF1 => ?_⟩
    have m3 := ex_new (o := .lst (cs ++ [V.ref t])) hF1
    have e4 := Evl.Ex.trans e3 m3
    have hF1' : (upd (upd (upd H1 t (.tup (rows.map fun r => V.int ((r.idxOf (lmin r) : Nat) : Int)))) L (.lst [V.ref t])) F1 (.lst (cs ++ [V.ref t]))) F1 = some (.lst (cs ++ [V.ref t])) := upd_same
    have ch4 := ChsAt.app (hcs.map (ex_sb e4).t) (ChsAt.one (hleast.map (ex_sb (Evl.Ex.trans m2 m3)).t))
    walk_at "rd"
    refine lcR_new (K := K) (n := n) (Ch1 K n rows) (fun H' H'' v t h => h.map t) (by omega) (val_var rfl) (fun _ => by rfl) (fun i hi H' e R q => ?_) (fun D2 H5 us hD2 e5 h5 hul hus => ?_)
    · walk_at "rd"
      refine ⟨Nat.le_of_lt (small_line (by show 1 ≤ 1000000; decide)), fun z hz => ?_⟩
      have m5 := ex_new (o := .tup [V.int (i : Int)]) hz
      walk_at "rd"
      refine ⟨a, _, rfl, .inr ((ex_sb (Evl.Ex.trans e4 (Evl.Ex.trans e m5))).t _ _ hq), ?_⟩
      walk_at "rd"
      refine r_rep0 (SqT.of upd_same) (by rw [hw.len]; omega) fun q' H6 e6 hq6 => ?_
      refine q _ _ (Evl.Ex.trans m5 e6) ⟨q', List.replicate rows.length i, rfl, ?_, by rw [List.length_replicate], fun j hj => ?_⟩
      · show SqT K H6 q' ((List.replicate rows.length i).map fun k : Nat => V.int (k : Int))
        rw [List.map_replicate, ← hw.len]
        exact hq6
      · rw [List.eq_of_mem_replicate hj]
        exact hi
    have e45 := Evl.Ex.trans e4 e5
    walk_at "rd"
    refine ⟨F1, D2, _, _, rfl, rfl, e5 _ _ hF1', h5, Nat.le_of_lt (small_line (by rw [List.length_append, hul]; show cs.length + 1 + n ≤ 1000000; omega)), fun F hF => ?_⟩
    have m6 := ex_new (o := .lst ((cs ++ [V.ref t]) ++ us)) hF
    have e6 := Evl.Ex.trans e45 m6
    have hF0 := ex_free e45 hF
    have hs0 := hst.d.ne
    obtain ⟨a3', r3', t3', o3', h3'⟩ := id hst.d
    have hFst : F ∉ [st] := fun m => by
      rw [List.mem_singleton.mp m, h3'] at hF0
      cases hF0
    walk_at "rd"
    refine r_while (fun m σ H' => ∃ ds u5 u6 u7 u8, σ = [some (.ref st), some (.ref a), some (.int (n : Int)), some (.ref tl), some (.ref F), u5, u6, u7, u8] ∧ Kp [st] H H' ∧ DsAt H' st c ∧ H' F = some (.lst ds) ∧ ChsAt K n rows H' ds ∧ ds.length ≤ 30 ∧ m = 100 - ds.length)
      _ ⟨_, _, _, _, _, rfl, Kp.ex e6, hst.d.ex e6, upd_same, ChsAt.app (ch4.map (ex_sb (Evl.Ex.trans e5 m6)).t) fun v m => (hus v m).map (ex_sb m6).t, by rw [List.length_append, List.length_append, hul]; show cs.length + 1 + n ≤ 30; omega, rfl⟩ (fun m σ H7 wm => ?_)
    obtain ⟨ds, u5, u6, u7, u8, rfl, kp, d7, hF7, hds, hdl, rfl⟩ := wm
    have s7 := hst.step kp d7
    walk_at "rd"
    refine ⟨F, _, rfl, .inl (SqL.of hF7), ?_⟩
    walk_at "rd"
    refine ifB (fun b => ?_) (fun b => ?_)
    · have hd30 : ds.length < 30 := by
        have := of_decide_eq_true b
        omega
      refine ⟨_, fun _ _ p => p, ?_⟩
      walk_at "rd"
      refine r_par ?_
      walk_at "rd"
      refine ⟨st, c, ns, _, rfl, by omega, by omega, s7, fun H8 v8 k8 d8 a8 b8 => ?_⟩
      obtain ⟨j8, rfl⟩ := Int.eq_ofNat_of_zero_le a8
      have s8 := s7.step k8 d8
      walk_at "rd"
      refine ⟨st, c, ns, _, rfl, by decide, by decide, s8, fun H9 v9 k9 d9 a9 b9 => ?_⟩
      have s9 := s8.step k9 d9
      walk_at "rd"
      refine ⟨_, _, rfl, ?_⟩
      walk_at "rd"
      refine ⟨Nat.zero_le _, fun p0 hp0 => ?_⟩
      have m10 := ex_new (o := .tup []) hp0
      have t10 : ∀ p ys, SqT K H7 p ys → SqT K (upd H9 p0 (.tup [])) p ys := fun p ys h => (ex_sb m10).t _ _ ((d8.kp k9).t _ _ ((d7.kp k8).t _ _ h))
      have hF10 := m10 _ _ (k9 F _ (k8 F _ hF7 hFst) hFst)
      have tH7 : ∀ p ys, SqT K H p ys → SqT K H7 p ys := (hst.d.kp kp).t
      walk_at "rd"
      refine ⟨a, rfl, ⟨xs, t10 _ _ (tH7 _ _ hq)⟩, ?_⟩
      refine forW (walk_tup (K := K) (a := a) (xs := xs)) (fun i σ H' => ∃ u5 kk pc cc, σ = [some (.ref st), some (.ref a), some (.int (n : Int)), some (.ref tl), some (.ref F), u5, some (.int ((kk : Nat) : Int)), some (.int (1 + v9)), some (.ref pc)] ∧ kk < n ∧ Kp [st] H H' ∧ DsAt H' st c ∧
          H' F = some (.lst ds) ∧ ChsAt K n rows H' ds ∧ SqT K H' pc (vNats cc) ∧ cc.length = i ∧ ∀ j ∈ cc, j < n)
        ⟨_, j8, p0, [], rfl, by omega, ((kp.trans k8).trans k9).newT hp0, d9.ex m10, hF10, hds.map t10, SqT.of upd_same, rfl, fun j m => nomatch m⟩ (fun i σ H' _ p => ?_) (fun i z σ H11 H12 hi p y => ?_) (fun σ H' p => ?_)
      · obtain ⟨u5, kk, pc, cc, rfl, _, kp', _⟩ := p
        exact (hst.d.kp kp').t _ _ hq
      · obtain ⟨u5, kk, pc, cc, rfl, hkk, kp', d11, hF11, hds11, hpc, hcl', hcn⟩ := p
        obtain ⟨rfl, hx⟩ := y
        have s11 := hst.step kp' d11
        walk_at "rd"
        refine ⟨st, c, ns, _, rfl, by omega, by omega, s11, fun H13 v13 k13 d13 a13 b13 => ?_⟩
        have s13 := s11.step k13 d13
        walk_at "rd"
        refine r_eqi (ifB (fun b5 => ?_) (fun b5 => ?_))
        · walk_at "rd"
          refine ⟨st, c, ns, _, rfl, by omega, by omega, s13, fun H14 v14 k14 d14 a14 b14 => ?_⟩
          obtain ⟨j14, rfl⟩ := Int.eq_ofNat_of_zero_le a14
          have kpx := (kp'.trans k13).trans k14
          have tx : ∀ p ys, SqT K _ p ys → SqT K H14 p ys := fun p ys h => (d13.kp k14).t _ _ ((d11.kp k13).t _ _ h)
          have hF14 := k14 F _ (k13 F _ hF11 hFst) hFst
          walk_at "rd"
          refine ⟨Nat.le_of_lt (small_line (by show 1 ≤ 1000000; decide)), fun z hz => ?_⟩
          have m15 := ex_new (o := .tup [V.int ((j14 : Nat) : Int)]) hz
          walk_at "rd"
          refine r_catA ((ex_sb m15).t _ _ (tx _ _ hpc)) (SqT.of upd_same) (by rw [List.length_map, hcl']; rw [hw.len] at hi; omega) fun q H16 m16 hq16 => ?_
          have m156 := Evl.Ex.trans m15 m16
          walk_at "rd"
          refine ⟨_, j14, q, cc ++ [j14], rfl, by omega, kpx.trans (Kp.ex m156), d14.ex m156, m156 _ _ hF14, hds11.map fun p ys h => (ex_sb m156).t _ _ (tx _ _ h), ?_, by rw [List.length_append, hcl']; rfl, fun j hj => ?_⟩
          · have hv : vNats (cc ++ [j14]) = vNats cc ++ [V.int ((j14 : Nat) : Int)] := List.map_append
            rw [hv]
            exact hq16
          · rcases List.mem_append.mp hj with z | z
            · exact hcn j z
            · rw [List.mem_singleton.mp z]
              omega
        · have tx := (d11.kp (K := K) k13).t
          have hF14 := k13 F _ hF11 hFst
          walk_at "rd"
          refine ⟨Nat.le_of_lt (small_line (by show 1 ≤ 1000000; decide)), fun z hz => ?_⟩
          have m15 := ex_new (o := .tup [V.int ((kk : Nat) : Int)]) hz
          walk_at "rd"
          refine r_catA ((ex_sb m15).t _ _ (tx _ _ hpc)) (SqT.of upd_same) (by rw [List.length_map, hcl']; rw [hw.len] at hi; omega) fun q H16 m16 hq16 => ?_
          have m156 := Evl.Ex.trans m15 m16
          walk_at "rd"
          refine ⟨_, kk, q, cc ++ [kk], rfl, hkk, (kp'.trans k13).trans (Kp.ex m156), d13.ex m156, m156 _ _ hF14, hds11.map fun p ys h => (ex_sb m156).t _ _ (tx _ _ h), ?_, by rw [List.length_append, hcl']; rfl, fun j hj => ?_⟩
          · have hv : vNats (cc ++ [kk]) = vNats cc ++ [V.int ((kk : Nat) : Int)] := List.map_append
            rw [hv]
            exact hq16
          · rcases List.mem_append.mp hj with z | z
            · exact hcn j z
            · rw [List.mem_singleton.mp z]
              exact hkk
      · obtain ⟨u5, kk, pc, cc, rfl, hkk, kp', d11, hF11, hds11, hpc, hcl', hcn⟩ := p
        walk_at "rd"
        refine ⟨.inl ⟨rfl, _, SqL.of hF11⟩, ?_⟩
        walk_at "rd"
        refine r_append hF11 (by omega) ?_
        walk_at "rd"
        have t12 : ∀ p ys, SqT K H' p ys → SqT K (upd H' F (.lst (ds ++ [.ref pc]))) p ys := fun p ys h => sqt_kp kp_self hF11 h
        refine ⟨100 - (ds ++ [V.ref pc]).length, ?_, ds ++ [V.ref pc], _, _, _, _, rfl, kp'.chg hF0, d11.upd hs0 hF0, upd_same, ChsAt.app (hds11.map t12) (ChsAt.one ⟨pc, cc, rfl, t12 _ _ hpc, by rw [hcl', hw.len], hcn⟩), ?_, rfl⟩
        · rw [List.length_append]
          show 100 - (ds.length + 1) < 100 - ds.length
          omega
        · rw [List.length_append]
          show ds.length + 1 ≤ 30
          omega
    · walk_at "rd"
      exact k F ds _ kp d7 hF7 hds
end
end PU
/-! PTold: bounds of what is told; dTold. -/
namespace PU
open PySem PySem.Spec PyProof.Rows L2 Ts K96
local macro_rules | `(tactic| walk_at "rd1") => `(tactic| first
  | with_reducible refine r_seq ?_ | with_reducible refine r_ret ?_ | with_reducible refine r_asg ?_ | with_reducible refine r_drop ?_ | with_reducible refine r_ifS ?_ | with_reducible refine r_next ?_
  | (with_reducible refine r_varE ?_; refine ⟨_, rfl, ?_⟩) | with_reducible refine r_c ?_ | with_reducible refine r_op ?_ | with_reducible refine r_I0 ?_ | (with_reducible refine r_eq ?h1 ?_; (case h1 => exact rfl)) | (with_reducible refine r_ne ?h1 ?_; (case h1 => exact rfl))
  | with_reducible refine r_nil ?_ | with_reducible refine r_cons ?_ | with_reducible refine r_cb ?_ | with_reducible refine r_call ?_ | with_reducible refine r_test ?_ | with_reducible refine r_tB ?_ | with_reducible refine r_bll ?_ | with_reducible refine r_int ?_
  | with_reducible refine r_not ?_ | with_reducible refine r_and ?_ | with_reducible refine r_or ?_ | with_reducible refine r_if ?_ | with_reducible refine r_isa ?_ | with_reducible refine r_tup ?_ | with_reducible refine r_lst ?_
  | with_reducible refine r_for ?_ | with_reducible refine r_iTup ?_ | with_reducible refine r_iList ?_ | with_reducible refine r_rng1 ?_ | with_reducible refine r_rng2 ?_ | with_reducible refine r_zipA ?_ | with_reducible refine r_enT ?_ | with_reducible refine r_zipM ?_ | with_reducible refine r_bmG ?_ | with_reducible refine r_enL ?_ | with_reducible refine r_revA ?_
  | (with_reducible refine r_augE ?_; refine ⟨_, rfl, ?_⟩) | with_reducible refine r_ipI ?_ | with_reducible refine r_rAdd ?_ | with_reducible refine r_bm ?_ | with_reducible refine r_bm0 ?_ | with_reducible refine r_gn ?_ | with_reducible refine r_asgG ?_
  | with_reducible refine r_sl ?_ | with_reducible refine r_nop ?_ | with_reducible refine r_part ?_ | with_reducible refine r_chain ?_ | with_reducible refine r_un ?_ | with_reducible refine r_rU ?_ | with_reducible refine r_fldE ?_ | with_reducible refine r_sfld ?_ | with_reducible refine r_sfldaug ?_ | with_reducible refine r_lstRg ?_ | with_reducible refine r_rg1 ?_ | with_reducible refine r_dget ?_ | with_reducible refine r_dput ?_ | with_reducible refine r_disp ?_ | with_reducible refine r_gsub ?_ | with_reducible refine r_pairC ?_ | with_reducible refine r_pairN ?_ | with_reducible refine r_meth ?_ | with_reducible refine r_make ?_ | with_reducible refine iteT ?_ | with_reducible refine iteF ?_)
local macro_rules | `(tactic| walk_at "rd") => `(tactic| repeat walk_at "rd1")

theorem chs_get {toll : Int} {n : Nat} {rows : List (List Int)} {m p : Nat} (h : p < m) : (chs toll n rows m).getD p 0 = (UM.S toll n rows (p + 1)).kind := by
  unfold chs
  rw [List.getD_eq_getElem?_getD, List.getElem?_map, List.getElem?_range h]
  rfl
theorem C_own {toll : Int} {n : Nat} {rows : List (List Int)} {m b : Nat} (h : b ≤ m) : UM.C toll rows (fun p => (chs toll n rows m).getD p 0) b = (UM.S toll n rows b).paid := by
  rw [← UM.S_paid]
  exact UM.C_congr b fun p hp => chs_get (by omega)
theorem chs_ok {toll : Int} {n : Nat} {rows : List (List Int)} (G : UM.Good toll n rows) : Okch n rows (chs toll n rows rows.length) := by
  refine ⟨chs_len, fun k hk => ?_⟩
  obtain ⟨p, hp, rfl⟩ := List.mem_map.mp hk
  have := List.mem_range.mp hp
  exact (UM.S_ok G (p + 1) (by omega)).k
theorem log_small {i : Int} (h0 : 0 ≤ i) (h1 : i ≤ 1000000000) : i.natAbs.log2 < 1920 := by
  by_cases e : i.natAbs = 0
  · rw [e]
    decide
  · refine (Nat.log2_lt e).mpr ?_
    have h2 : i.natAbs ≤ 1000000000 := by omega
    have h3 : (1000000000 : Nat) < 2 ^ 30 := by decide
    have h4 : (2 : Nat) ^ 30 ≤ 2 ^ 1920 := Nat.pow_le_pow_right (by decide) (by decide)
    omega
theorem C_small {toll : Int} {n : Nat} {rows : List (List Int)} (o : Okc toll n rows) {c : Nat → Nat} (hc : ∀ p, p < rows.length → c p < n) : 0 ≤ UM.C toll rows c rows.length ∧ UM.C toll rows c rows.length ≤ 1000000000 := by
  have t1 := o.g.t1
  have t2 := o.t2
  have hm := o.m
  have hb := UM.C_bounds (toll := toll) (rows := rows) (c := c) (M := 1000000) (by omega) (fun p hp => by
    have h1 := o.top _ (row_mem hp)
    have h2 := o.g.len p hp
    have h3 := hc p hp
    have h4 : UM.at0 (UM.row rows p) (c p) ∈ UM.row rows p := by
      unfold UM.at0
      rw [List.getD_eq_getElem?_getD, List.getElem?_eq_getElem (by omega)]
      exact List.getElem_mem _
    have := h1 _ h4
    omega) rows.length (Nat.le_refl _)
  refine ⟨hb.1, Int.le_trans hb.2 ?_⟩
  have h5 : ((rows.length : Nat) : Int) * (1000000 + toll) ≤ 120 * (1000000 + toll) := Int.mul_le_mul_of_nonneg_right (by omega) (by omega)
  omega
theorem paid_small {toll : Int} {n : Nat} {rows : List (List Int)} (o : Okc toll n rows) : 0 ≤ (UM.S toll n rows rows.length).paid ∧ (UM.S toll n rows rows.length).paid ≤ 1000000000 := by
  rw [← UM.S_paid]
  exact C_small o fun p hp => (UM.S_ok o.g (p + 1) (by omega)).k
theorem costIs_small {toll : Int} {n : Nat} {rows : List (List Int)} (o : Okc toll n rows) : ∀ es : List Nat, (∀ e ∈ es, e < rows.length) → 0 ≤ costIs toll rows es ∧ costIs toll rows es ≤ (es.length : Int) * 1000000
  | [], _ => ⟨Int.le_refl _, by show (0 : Int) ≤ ((0 : Nat) : Int) * _; simp⟩
  | e :: es, h => by
    have ih := costIs_small o es fun x hx => h x (List.mem_cons_of_mem _ hx)
    have he := h e List.mem_cons_self
    have n1 := o.g.n1
    have t1 := o.g.t1
    have t2 := o.t2
    have hne : UM.row rows e ≠ [] := fun z => by
      have h2 := o.g.len e he
      rw [z] at h2
      have : (0 : Nat) = n := h2
      omega
    have hl := o.top _ (row_mem he) _ (lmin_mem hne)
    have hb := UM.biggest_ge toll (lmin (UM.row rows e))
    have hb2 := UM.biggest_le (a := toll) (b := lmin (UM.row rows e)) (c := 1000000) (by omega) hl.2
    show 0 ≤ UM.biggest toll (lmin (UM.row rows e)) + costIs toll rows es ∧ UM.biggest toll (lmin (UM.row rows e)) + costIs toll rows es ≤ ((es.length + 1 : Nat) : Int) * 1000000
    omega
theorem eds_rising {toll : Int} {n : Nat} {rows : List (List Int)} : Rising (eds toll n rows rows.length) rows.length := ⟨UM.ends_rise (toll := toll) (n := n) (rows := rows), fun _ h => (UM.mem_ends (toll := toll) (n := n) (rows := rows).mp h).1⟩
theorem costIs_Gs {toll : Int} {n : Nat} {rows : List (List Int)} : costIs toll rows (eds toll n rows rows.length) = UM.Gs toll n rows rows.length := rfl
theorem nats_of {n : Nat} : ∀ {us : List V}, (∀ (m : Nat) (v : V), us[m]? = some v → ∃ k : Nat, v = V.int (k : Int) ∧ k < n) → ∃ c : List Nat, us = vNats c ∧ ∀ k ∈ c, k < n
  | [], _ => ⟨[], rfl, fun x m => (nomatch m)⟩
  | u :: us, h => by
    obtain ⟨x, rfl, hx⟩ := h 0 u rfl
    obtain ⟨r, e, hr⟩ := nats_of (us := us) fun m v e => h (m + 1) v e
    refine ⟨x :: r, by rw [e]; rfl, fun y hy => ?_⟩
    rcases List.mem_cons.mp hy with q | q
    · rw [q]
      exact hx
    · exact hr y q
theorem dp_nats {K : PySem.W.Frag} {H : Hp} {a : Addr} {c : List Nat} (h : SqT K H a (vNats c)) : Dp K H (.ref a) (dNats c) := dp_of_ints (by rw [List.map_map]; exact h)
abbrev dTold (c : List Nat) (p : Int) (es : List Nat) : PyData := .tuple [dNats c, .int p, dNats es]
theorem lay_told (c : List Nat) (p : Int) (es : List Nat) : PyData.canLay0 (dTold c p es) = true := by
  show (PyData.canLayAll0 ((c.map fun k : Nat => (k : Int)).map PyData.int) && (true && (PyData.canLayAll0 ((es.map fun k : Nat => (k : Int)).map PyData.int) && true))) = true
  rw [lay_ints, lay_ints]
  rfl
theorem shaped_told (c : List Nat) (p : Int) (es : List Nat) : SeqAt.shaped (dTold c p es) = true := by
  show (PyData.canLay0 (dTold c p es) && decide (max (PyData.depthAll ((c.map fun k : Nat => (k : Int)).map PyData.int) + 1) (max 0 (max (PyData.depthAll ((es.map fun k : Nat => (k : Int)).map PyData.int) + 1) 0)) + 1 ≤ 64)) = true
  rw [lay_told, dep_ints, dep_ints]
  rfl
end PU
/-! PLaw96: the law. -/
namespace PU
open PySem PySem.Spec PyProof.Rows L2 Ts K96
local macro_rules | `(tactic| walk_at "rd1") => `(tactic| first
  | with_reducible refine r_seq ?_ | with_reducible refine r_ret ?_ | with_reducible refine r_asg ?_ | with_reducible refine r_drop ?_ | with_reducible refine r_ifS ?_ | with_reducible refine r_next ?_
  | (with_reducible refine r_varE ?_; refine ⟨_, rfl, ?_⟩) | with_reducible refine r_c ?_ | with_reducible refine r_op ?_ | with_reducible refine r_I0 ?_ | (with_reducible refine r_eq ?h1 ?_; (case h1 => exact rfl)) | (with_reducible refine r_ne ?h1 ?_; (case h1 => exact rfl))
  | with_reducible refine r_nil ?_ | with_reducible refine r_cons ?_ | with_reducible refine r_cb ?_ | with_reducible refine r_call ?_ | with_reducible refine r_test ?_ | with_reducible refine r_tB ?_ | with_reducible refine r_bll ?_ | with_reducible refine r_int ?_
  | with_reducible refine r_not ?_ | with_reducible refine r_and ?_ | with_reducible refine r_or ?_ | with_reducible refine r_if ?_ | with_reducible refine r_isa ?_ | with_reducible refine r_tup ?_ | with_reducible refine r_lst ?_
  | with_reducible refine r_for ?_ | with_reducible refine r_iTup ?_ | with_reducible refine r_iList ?_ | with_reducible refine r_rng1 ?_ | with_reducible refine r_rng2 ?_ | with_reducible refine r_zipA ?_ | with_reducible refine r_enT ?_ | with_reducible refine r_zipM ?_ | with_reducible refine r_bmG ?_ | with_reducible refine r_enL ?_ | with_reducible refine r_revA ?_
  | (with_reducible refine r_augE ?_; refine ⟨_, rfl, ?_⟩) | with_reducible refine r_ipI ?_ | with_reducible refine r_rAdd ?_ | with_reducible refine r_bm ?_ | with_reducible refine r_bm0 ?_ | with_reducible refine r_gn ?_ | with_reducible refine r_asgG ?_
  | with_reducible refine r_sl ?_ | with_reducible refine r_nop ?_ | with_reducible refine r_part ?_ | with_reducible refine r_chain ?_ | with_reducible refine r_un ?_ | with_reducible refine r_rU ?_ | with_reducible refine r_fldE ?_ | with_reducible refine r_sfld ?_ | with_reducible refine r_sfldaug ?_ | with_reducible refine r_lstRg ?_ | with_reducible refine r_rg1 ?_ | with_reducible refine r_dget ?_ | with_reducible refine r_dput ?_ | with_reducible refine r_disp ?_ | with_reducible refine r_gsub ?_ | with_reducible refine r_pairC ?_ | with_reducible refine r_pairN ?_ | with_reducible refine r_meth ?_ | with_reducible refine r_make ?_ | with_reducible refine iteT ?_ | with_reducible refine iteF ?_)
local macro_rules | `(tactic| walk_at "rd") => `(tactic| repeat walk_at "rd1")

theorem dp_told {K : PySem.W.Frag} {H : Hp} {t a b : Addr} {c es : List Nat} {p : Int} (h : SqT K H t [.ref a, .int p, .ref b]) (ha : SqT K H a (vNats c)) (hb : SqT K H b (vNats es)) : Dp K H (.ref t) (dTold c p es) :=
  .tup h (.cons (dp_nats ha) (.cons (.int _) (.cons (dp_nats hb) .nil)))
theorem okR_nats (c : List Nat) (h : ∀ k ∈ c, k ≤ 1000000000) : okRs ((c.map fun k : Nat => (k : Int)).map PyData.int) = true := okR_ints _ fun x hx => by
  obtain ⟨k, hk, rfl⟩ := List.mem_map.mp hx
  have := h k hk
  omega
theorem rep_told {K : PySem.W.Frag} {H : Hp} {Q : VK} {x : V} {c es : List Nat} {p : Int} (hd : Dp K H x (dTold c p es)) (hc : ∀ k ∈ c, k ≤ 1000000000) (he : ∀ k ∈ es, k ≤ 1000000000) (hp : 0 ≤ p ∧ p ≤ 1000000000) (lc : c.length ≤ 1000) (le : es.length ≤ 1000)
    (q : Q (.str (dTold c p es).shown) H) : rRepD K [x] H Q := by
  refine r_rep hd ?_ ?_ ?_ q
  · show (okRs ((c.map fun k : Nat => (k : Int)).map PyData.int) && (decide (p.natAbs < 10 ^ 31) && (okRs ((es.map fun k : Nat => (k : Int)).map PyData.int) && true))) = true
    rw [okR_nats c hc, okR_nats es he, small31 hp.1 hp.2]
    rfl
  · show ((wtRs ((c.map fun k : Nat => (k : Int)).map PyData.int) + 4 + 2) + ((32 + 2) + ((wtRs ((es.map fun k : Nat => (k : Int)).map PyData.int) + 4 + 2) + 0))) + 4 ≤ 16000000
    rw [wtR_ints, wtR_ints, List.length_map, List.length_map]
    omega
  · show (max (PyData.depthAll ((c.map fun k : Nat => (k : Int)).map PyData.int) + 1) (max 0 (max (PyData.depthAll ((es.map fun k : Nat => (k : Int)).map PyData.int) + 1) 0))) + 1 ≤ 50
    rw [dep_ints, dep_ints]
    decide
def sp_law (K : PySem.W.Frag) : Sp := fun vs H Q _ => ∃ (a : Addr) (ns : List Int), vs = [.ref a] ∧ SqL K H a (ns.map V.int) ∧ ns.length ≤ 1000000 ∧ ∀ H', Q (.bl true) H'
/-- the kinds that the law counts -/
theorem first_row {K : PySem.W.Frag} {H : Hp} {vs : List V} {rows : List (List Int)} {m : Nat} {toll : Int} {z : Addr} (hw : Rws K H vs rows) (hz : SqT K H z [.int 1]) (m1 : 1 ≤ m) (m5 : m ≤ 5) (hl : rows.length ≤ 120) (hr : ∀ r ∈ rows, RowIs m r) (t1 : 1 ≤ toll) (t2 : toll ≤ 1000) :
    ∃ (n : Nat) (b : Addr) (r0 : List Int), (vs ++ [V.ref z])[0]? = some (V.ref b) ∧ SqT K H b (r0.map V.int) ∧ r0.length = n ∧ Okc toll n rows := by
  cases rows with
  | nil =>
    have e : vs = [] := List.length_eq_zero_iff.mp hw.len
    subst e
    exact ⟨1, z, [1], rfl, hz, rfl, Drawn.okc (most := 120) ⟨by omega, by omega, by simp, fun r m => (nomatch m), fun _ => rfl⟩ (by omega) t1 t2⟩
  | cons r rs =>
    obtain ⟨b, hb, hs⟩ := hw.get 0 r rfl
    have hlt := (List.getElem?_eq_some_iff.mp hb).1
    exact ⟨m, b, r, by rw [List.getElem?_append_left hlt]; exact hb, hs, (hr r List.mem_cons_self).1, Drawn.okc (most := 120) ⟨m1, m5, hl, hr, fun e => nomatch e⟩ (by omega) t1 t2⟩
section
variable {P : Program} {w : World} {K : PySem.W.Frag} {mg : Str → Option Value} {base : Heap}
theorem sc_law : FnScope ["_law_script", "_law_state", "_law_turn", "_law_many", "_law_size_here", "_law_toll_here", "_law_costs_here", "_law_choice", "_law_paid_here", "_law_ends", "_law_steps", "_law_least", "_law_number_here", "_law_paper", "_law_phases", "_law_place", "_law_some", "_law_own"] ["_law_script"] (defScope slaw) := ⟨rfl, rfl, rfl, by decide +kernel, rfl, by decide +kernel, by decide +kernel⟩
theorem ok_law (T : Tx fa fn K mg) : GFn P w K mg base 8 (He.fAd K dlaw.at_) ["_law_script"] (sp_law K) := by
  obtain ⟨fd, F⟩ := T.says.def_ 31 (d := dlaw) rfl
  refine ok0 F sc_law (fun vs H Q E h => ?_) (fun _ _ _ _ _ _ us hl => match us, hl with | [_], _ => rfl) (fun cdv A outer s H vs Q E hr h => ?_)
  · obtain ⟨a, ns, rfl, _⟩ := h
    rfl
  · obtain ⟨a, ns, rfl, ha, hn, k⟩ := h
    refine ⟨_, (pss_cons (ps_set (i := 1) sc_law.nd rfl (Or.inl rfl) (gc (ok_law_begun T) (hr.mono (by decide)) (T.g 19) pn (pa_cons (pv 0) pa_nil)))
      (pss_cons (ps_for (by first | exact PassesOwn.never | exact passes_of rfl) rfl (pi_range1 rfl (T.b 67) (pa_cons pe_int pa_nil)) (pg_name (i := 2) sc_law.nd rfl (Or.inl rfl)) (pss_cons (ps_set (i := 3) sc_law.nd rfl (Or.inl rfl) (pe_op op_add pe_int (gc (ok_law_take T) (hr.mono (by decide)) (T.g 20) pn (pa_cons (pv 1) (pa_cons pe_int pa_nil)))))
      (pss_cons (ps_set (i := 4) sc_law.nd rfl (Or.inl rfl) (gc (ok_law_size T) (hr.mono (by decide)) (T.g 23) pn (pa_cons (pv 1) (pa_cons pe_int pa_nil))))
      (pss_cons (ps_set (i := 5) sc_law.nd rfl (Or.inr rfl) (gc (ok_law_toll T) (hr.mono (by decide)) (T.g 25) pn (pa_cons (pv 1) pa_nil)))
      (pss_cons (ps_if (pt_cmpR op_eq (gc (ok_law_take T) (hr.mono (by decide)) (T.g 20) pn (pa_cons (pv 1) (pa_cons pe_int pa_nil))) pe_int (nomark _)) (pss_one (ps_set (i := 6) sc_law.nd rfl (Or.inr rfl) (gc (ok_law_dear T) (hr.mono (by decide)) (T.g 27) pn (pa_cons (pv 1) (pa_cons (pv 3) (pa_cons (pv 4) pa_nil)))))) (pss_one (ps_set (i := 6) sc_law.nd rfl (Or.inr rfl) (gc (ok_law_costs T) (hr.mono (by decide)) (T.g 24) pn (pa_cons (pv 1) (pa_cons (pv 3) (pa_cons (pv 4) pa_nil)))))))
      (pss_cons (ps_set (i := 3) sc_law.nd rfl (Or.inl rfl) (pe_callB (cLen K) (by rfl) (T.b 63) (by decide +kernel) (pa_cons (pe_ix (ixT K) (pe_op (ctA K) (pv 6) (pe_tup (pa_cons (pe_tup (pa_cons pe_int pa_nil)) pa_nil))) pe_int (fun _ _ => rfl)) pa_nil)))
      (pss_cons (ps_asg (gc (ok_law_under T) (hr.mono (by decide)) (T.g 28) pn (pa_cons (pv 6) (pa_cons (pv 5) (pa_cons (pv 3) pa_nil)))) (lstK K (n := 4) rfl (pgs_cons (pg_name (i := 7) sc_law.nd rfl (Or.inl rfl)) (pgs_cons (pg_name (i := 8) sc_law.nd rfl (Or.inl rfl)) (pgs_cons (pg_name (i := 9) sc_law.nd rfl (Or.inl rfl)) (pgs_cons (pg_name (i := 10) sc_law.nd rfl (Or.inl rfl)) pgs_nil))))))
      (pss_cons (ps_if (PW.pt (pw_or (pt_cmpR op_ne (pe_callB (cRepr K hr.gd hr.rm.units) (by rfl) (T.b 68) (by decide +kernel) (pa_cons (gc (ok_under T) (hr.mono (by decide)) (T.g 17) pn (pa_cons (pv 6) (pa_cons (pv 5) pa_nil))) pa_nil)) (pe_callB (cRepr K hr.gd hr.rm.units) (by rfl) (T.b 68) (by decide +kernel) (pa_cons (pe_tup (pa_cons (pv 7) (pa_cons (pv 8) (pa_cons (pv 9) pa_nil)))) pa_nil)) (nomark _)) (pw_or1 (pt_not (pt_val (gc (ok_law_stepped T) (hr.mono (by decide)) (T.g 29) pn (pa_cons (pv 6) (pa_cons (pv 5) (pa_cons (pv 3) (pa_cons (pv 10) pa_nil)))))))))) (pss_one (ps_ret pe_bl)) pss_nil)
      (pss_cons (ps_asg (gc (ok_cheapest T) (hr.mono (by decide)) (T.g 12) pn (pa_cons (pv 6) (pa_cons (pv 5) pa_nil))) (gtupK K (n := 3) rfl (pgs_cons (pg_name (i := 11) sc_law.nd rfl (Or.inl rfl)) (pgs_cons (pg_name (i := 12) sc_law.nd rfl (Or.inl rfl)) (pgs_cons (pg_name (i := 13) sc_law.nd rfl (Or.inl rfl)) pgs_nil)))))
      (pss_cons (ps_set (i := 14) sc_law.nd rfl (Or.inl rfl) (pe_callB (cSum K rfl) (by rfl) (T.b 72) (by decide +kernel) (pa_cons (pe_lc (own := [("_law_place", 15)]) (g := gName 15) (tt := tYes) rfl sc_law.nd (piT K (pv 9)) (blkOk_by (N := ["_law_script", "_law_state", "_law_turn", "_law_many", "_law_size_here", "_law_toll_here", "_law_costs_here", "_law_choice", "_law_paid_here", "_law_ends", "_law_steps", "_law_least", "_law_number_here", "_law_paper", "_law_phases", "_law_place", "_law_some", "_law_own"]) (sc := defScope slaw) (by decide +kernel)) (fun _ _ _ _ _ => pg_name (i := 15) sc_law.nd rfl (Or.inl rfl)) (fun _ _ _ _ _ => pts_nil) (fun _ _ _ _ _ => (pe_callB (call_max2 rfl) (by rfl) (T.b 65) (by decide +kernel) (pa_cons (pv 5) (pa_cons (pe_callB (cMin K rfl) (by rfl) (T.b 66) (by decide +kernel) (pa_cons (pe_ix (ixT K) (pv 6) (pv 15) (fun _ _ => rfl)) pa_nil)) pa_nil))))) pa_nil)))
      (pss_cons (ps_if (PW.pt (pw_or (pt_cmpR op_ne (gc (ok_phases_cost T) (hr.mono (by decide)) (T.g 18) pn (pa_cons (pv 6) (pa_cons (pv 5) (pa_cons (pv 9) pa_nil)))) (pv 14) (nomark _)) (pw_or1 (pt_cmpR op_notB (gc (ok_shows_none_less T) (hr.mono (by decide)) (T.g 14) pn (pa_cons (pv 6) (pa_cons (pv 5) (pa_cons (pv 12) (pa_cons (pv 13) pa_nil))))) pe_bl (nomark _))))) (pss_one (ps_ret pe_bl)) pss_nil)
      (pss_cons (ps_for (by first | exact PassesOwn.never | exact passes_of rfl) rfl (piL K (gc (ok_law_choices T) (hr.mono (by decide)) (T.g 30) pn (pa_cons (pv 1) (pa_cons (pv 6) (pa_cons (pv 3) (pa_cons (pe_lst (pa_cons (pv 7) (pa_cons (pv 11) pa_nil))) pa_nil)))))) (pg_name (i := 16) sc_law.nd rfl (Or.inl rfl)) (pss_cons (ps_set (i := 17) sc_law.nd rfl (Or.inl rfl) (gc (ok_law_paid T) (hr.mono (by decide)) (T.g 26) pn (pa_cons (pv 6) (pa_cons (pv 5) (pa_cons (pv 16) pa_nil)))))
      (pss_one (ps_if (PW.pt (pw_or (pt_cmpR op_lt (pv 17) (pv 12) (nomark _)) (pw_or (pt_cmpR op_lt (pv 17) (pv 14) (nomark _)) (pw_or1 (pt_cmpR op_ne (gc (ok_cost T) (hr.mono (by decide)) (T.g 9) pn (pa_cons (pv 6) (pa_cons (pv 5) (pa_cons (pv 16) pa_nil)))) (pv 17) (nomark _)))))) (pss_one (ps_ret pe_bl)) pss_nil))))
      (pss_cons (ps_if (PW.pt (pw_or (pt_cmpR op_ne (gc (ok_law_paid T) (hr.mono (by decide)) (T.g 26) pn (pa_cons (pv 6) (pa_cons (pv 5) (pa_cons (pv 7) pa_nil)))) (pv 8) (nomark _)) (pw_or (pt_cmpR op_ne (gc (ok_law_paid T) (hr.mono (by decide)) (T.g 26) pn (pa_cons (pv 6) (pa_cons (pv 5) (pa_cons (pv 11) pa_nil)))) (pv 12) (nomark _)) (pw_or1 (pt_cmpR op_gt (pv 14) (pv 12) (nomark _)))))) (pss_one (ps_ret pe_bl)) pss_nil)
      (pss_one (ps_if (pt_cmpR op_gt (pv 8) (pe_op op_add (pe_op op_mul (pe_op op_add (pe_op op_mul pe_int (pv 3)) pe_int) (pv 12)) (pe_op op_mul (pe_op op_mul pe_int (pv 3)) (pv 5))) (nomark _)) (pss_one (ps_ret pe_bl)) pss_nil)))))))))))))))
      (pss_one (ps_ret pe_bl)))), ?_⟩
    walk_at "rd"
    refine ⟨a, ns, rfl, ha, hn, fun st c ms H1 hst0 e1 hst => ?_⟩
    walk_at "rd"
    refine ⟨_, rfl, by decide, by decide, ?_⟩
    refine forW (walk_range (lo := 0) (n := 3)) (fun _ σ H' => StAt K H' st c ms ∧ ∃ u2 u3 u4 u5 u6 u7 u8 u9 u10 u11 u12 u13 u14 u16 u17, σ = [some (.ref a), some (.ref st), u2, u3, u4, u5, u6, u7, u8, u9, u10, u11, u12, u13, u14, none, u16, u17]) ⟨hst, _, _, _, _, _, _, _, _, _, _, _, _, _, _, _, rfl⟩ (fun _ _ _ _ _ => trivial) (fun i z σ H4 H4' hi p y => ?_) (fun σ H' p => ?_)
    · obtain ⟨s4, u2, u3, u4, u5, u6, u7, u8, u9, u10, u11, u12, u13, u14, u16, u17, rfl⟩ := p
      obtain ⟨rfl, rfl⟩ := y
      walk_at "rd"
      refine ⟨st, c, ms, _, rfl, by decide, by decide, s4, fun H5 v5 k5 d5 a5 b5 => ?_⟩
      obtain ⟨j5, rfl⟩ := Int.eq_ofNat_of_zero_le a5
      have s5 := s4.step k5 d5
      walk_at "rd"
      refine ⟨st, c, ms, 120, rfl, by decide, s5, fun H6 v6 k6 d6 b6 => ?_⟩
      have s6 := s5.step k6 d6
      walk_at "rd"
      refine ⟨st, c, ms, rfl, s6, fun H7 toll k7 d7 t1 t2 => ?_⟩
      have s7 := s6.step k7 d7
      with_reducible refine r_seq ?_
      refine r_ifS2 (fun σ' Hx => ∃ t vs rows, σ' = [some (.ref a), some (.ref st), some (.int (0 + (i : Int))), some (.int ((1 + j5 : Nat) : Int)), some (.int (v6 : Int)), some (.int toll), some (.ref t), u7, u8, u9, u10, u11, u12, u13, u14, none, u16, u17] ∧ StAt K Hx st c ms ∧
        Hx t = some (.tup vs) ∧ Rws K Hx vs rows ∧ Pls Hx vs ∧ rows.length = v6 ∧ ∀ r ∈ rows, RowIs (1 + j5) r) (fun σ' Hx pre => ?_) (fun tail => ?_)
      · obtain ⟨t, vs, rows, rfl, s8, ht, hw8, hp8, hlen, hri⟩ := pre
        walk_at "rd"
        refine ⟨Nat.le_of_lt (small_line (by show 1 ≤ 1000000; decide)), fun z1 hz1 => ?_⟩
        have m1 := ex_new (o := .tup [V.int 1]) hz1
        walk_at "rd"
        refine ⟨Nat.le_of_lt (small_line (by show 1 ≤ 1000000; decide)), fun z2 hz2 => ?_⟩
        have m2 := ex_newT (o := .tup [V.ref z1]) m1 hz2
        have m2' := ex_new (o := .tup [V.ref z1]) hz2
        walk_at "rd"
        refine r_catA ((ex_sb m2).t _ _ (SqT.of ht)) (SqT.of upd_same) (by rw [hw8.len]; omega) fun q1 H9 m3 hq1 => ?_
        have m23 := Evl.Ex.trans m2 m3
        have hw9 := hw8.map (ex_sb m23).t
        obtain ⟨n, b0, r0, hb0, hsb0, hl0, o⟩ := first_row hw9 ((ex_sb (Evl.Ex.trans m2' m3)).t _ _ (SqT.of (upd_same (o := .tup [V.int 1])))) (by omega) (by omega) (by omega) hri t1 t2
        have s9 := s8.ex m23
        have sq9 : SqT K H9 t vs := (ex_sb m23).t _ _ (SqT.of ht)
        have hp9 := hp8.map fun p h => h.ex m23
        have hd9 : Dp K H9 (.ref t) (dCosts rows) := .tup sq9 (rws_dpa hw9)
        have n1 := o.g.n1
        have n5 := o.n2
        have hm := o.m
        walk_at "rd"
        refine r_ixT hq1 (atI_nat (j := 0) hb0) ?_
        walk_at "rd"
        refine ⟨b0, _, rfl, .inr hsb0, ?_⟩
        rw [List.length_map, hl0]
        walk_at "rd"
        refine ⟨t, vs, toll, n, rows, rfl, sq9, hw9, hp9, o, fun F pc pe ST ss H10 e10 hF hpc hpe hST hss => ?_⟩
        refine r_four (SqL.of hF) ?_
        walk_at "rd"
        have hel : (eds toll n rows rows.length).length ≤ rows.length := eds_len
        have hri2 : Rising (eds toll n rows rows.length) rows.length := eds_rising
        have hps := paid_small o
        have hco : Okch n rows (chs toll n rows rows.length) := chs_ok o.g
        refine ⟨_, toll, n, rows, rfl, dp_sb (ex_sb e10) hd9, o, fun tu pcu peu H11 e11 htu hpcu hpeu => ?_⟩
        walk_at "rd"
        refine rep_told (dp_told (SqT.of htu) hpcu hpeu) (fun k hk => by have := hco.lt k hk; omega) (fun k hk => by have := hri2.2 k hk; omega) hps (by rw [chs_len]; omega) (by omega) ?_
        walk_at "rd"
        refine ⟨Nat.le_of_lt (small_line (by show 3 ≤ 1000000; decide)), fun z3 hz3 => ?_⟩
        have m12 := ex_newT (o := .tup [V.ref pc, .int (UM.S toll n rows rows.length).paid, .ref pe]) e11 hz3
        have e12 := Evl.Ex.trans e10 m12
        walk_at "rd"
        refine rep_told (dp_told (SqT.of upd_same) ((ex_sb m12).t _ _ hpc) ((ex_sb m12).t _ _ hpe)) (fun k hk => by have := hco.lt k hk; omega) (fun k hk => by have := hri2.2 k hk; omega) hps (by rw [chs_len]; omega) (by omega) ?_
        refine r_ne rfl ?_
        rw [decide_eq_true rfl]
        refine ⟨_, rfl, iteF ?_⟩
        walk_at "rd"
        refine ⟨t, ST, vs, ss, toll, n, rows, rfl, (ex_sb e12).t _ _ sq9, hw9.map (ex_sb e12).t, o, m12 _ _ hST, hss.map (ex_sb m12).t, fun H13 e13 => ?_⟩
        walk_at "rd"
        refine iteF ?_
        walk_at "rd"
        have e013 := Evl.Ex.trans e12 e13
        refine ⟨_, toll, n, rows, rfl, dp_sb (ex_sb e013) hd9, o, fun tc pcc ppp H14 e14 htc hpcc hppp => ?_⟩
        refine r_triple (SqT.of htc) ?_
        have e014 := Evl.Ex.trans e013 e14
        have sq14 := (ex_sb e014).t _ _ sq9
        have hw14 := hw9.map (ex_sb e014).t
        have hpe14 := (ex_sb (Evl.Ex.trans m12 (Evl.Ex.trans e13 e14))).t _ _ hpe
        have hpc14 := (ex_sb (Evl.Ex.trans m12 (Evl.Ex.trans e13 e14))).t _ _ hpc
        walk_at "rd"
        refine lcT_map (zs := eds toll n rows rows.length) (fun e => V.int (UM.biggest toll (lmin (UM.row rows e)))) (val_var rfl) hpe14 (List.length_map _) (by rw [List.length_map]; omega) (fun _ => by rfl) (fun m x z hx hz H15 e15 R q => ?_) (fun D2 H15 hD2 e15 h15 => ?_)
        · obtain ⟨k', hk, rfl, hmem⟩ := vnats_get hx
          rw [hz] at hk
          cases hk
          have hmi := hri2.2 _ hmem
          obtain ⟨br, hbr, hsr⟩ := hw14.get z _ (row_get hmi)
          walk_at "rd"
          refine r_ixT ((ex_sb e15).t _ _ sq14) (atI_nat hbr) ?_
          walk_at "rd"
          refine ⟨br, _, rfl, .inr ((ex_sb e15).t _ _ hsr), fun q => ?_, ?_⟩
          · have := o.g.len z hmi
            rw [q] at this
            have : (0 : Nat) = n := this
            omega
          walk_at "rd"
          exact ⟨_, _, rfl, q _ (Evl.Ex.refl _)⟩
        have hcs := costIs_small o (eds toll n rows rows.length) hri2.2
        walk_at "rd"
        refine ⟨D2, (eds toll n rows rows.length).map fun e => UM.biggest toll (lmin (UM.row rows e)), rfl, SqL.of (by rw [h15, List.map_map]; rfl), ?_⟩
        have ecs : ((eds toll n rows rows.length).map fun e => UM.biggest toll (lmin (UM.row rows e))).sum = UM.Gs toll n rows rows.length := rfl
        rw [ecs]
        have e015 := Evl.Ex.trans e014 e15
        have hpe15 := (ex_sb e15).t _ _ hpe14
        walk_at "rd"
        refine ⟨_, toll, n, rows, pe, eds toll n rows rows.length, rfl, dp_sb (ex_sb e015) hd9, o, hpe15, hri2, by omega, fun H16 e16 => ?_⟩
        rw [costIs_Gs]
        walk_at "rd"
        refine r_nei ?_
        rw [decide_eq_true rfl]
        refine iteF ?_
        walk_at "rd"
        refine ⟨_, _, toll, n, rows, rfl, dp_sb (ex_sb (Evl.Ex.trans e015 e16)) hd9, o, dp_sb (ex_sb (Evl.Ex.trans e15 e16)) hppp, fun H17 e17 => ?_⟩
        walk_at "rd"
        refine ⟨true, true, rfl, rfl, ?_⟩
        refine ⟨_, rfl, iteF ?_⟩
        have e017 := Evl.Ex.trans (Evl.Ex.trans e015 e16) e17
        have e1417 := Evl.Ex.trans (Evl.Ex.trans e15 e16) e17
        walk_at "rd"
        refine ⟨Nat.le_of_lt (small_line (by show 2 ≤ 1000000; decide)), fun tl htl => ?_⟩
        have m18 := ex_new (o := .lst [V.ref pc, .ref pcc]) htl
        have e018 := Evl.Ex.trans e017 m18
        have e1418 := Evl.Ex.trans e1417 m18
        have hpc18 := (ex_sb e1418).t _ _ hpc14
        have hpcc18 := (ex_sb e1418).t _ _ hpcc
        have hbo : Okch n rows (UM.best toll n rows) := ⟨UM.best_len, fun k hk => by
          obtain ⟨j, hj, rfl⟩ := List.mem_map.mp hk
          exact UM.bk1_lt n1 _ (by have := List.mem_range.mp hj; omega)⟩
        have s18 := s9.ex e018
        have low := fun (cc : List Nat) (hc : Okch n rows cc) => UM.lower o.g (c := fun p => cc.getD p 0) fun p hp => hc.at (by rw [hc.len]; exact hp)
        have hge := UM.cheapest_ge o.g
        walk_at "rd"
        refine ⟨st, c, t, tl, ms, vs, [V.ref pc, .ref pcc], toll, n, rows, rfl, s18, (ex_sb e018).t _ _ sq9, hw9.map (ex_sb e018).t, hp9.map fun p h => h.ex e018, o, upd_same, by show 2 ≤ 20; decide,
          fun v m => ?_, fun FF ds H19 k19 d19 hFF hds => ?_⟩
        · rcases List.mem_cons.mp m with q | q
          · exact ⟨pc, _, q, hpc18, hco⟩
          · exact ⟨pcc, _, List.mem_singleton.mp q, hpcc18, hbo⟩
        have sb19 := s18.d.kp (K := K) k19
        have hd19 := dp_sb sb19 (dp_sb (ex_sb e018) hd9)
        have hpc19 := sb19.t _ _ hpc18
        have hpcc19 := sb19.t _ _ hpcc18
        have s19 := s18.step k19 d19
        refine ⟨FF, rfl, ⟨ds, SqL.of hFF⟩, ?_⟩
        refine forW (walk_list (K := K) (a := FF) (xs := ds)) (fun _ σ H' => Ex H19 H' ∧ ∃ u16 u17, σ = [some (.ref a), some (.ref st), some (.int (0 + (i : Int))), some (.int (n : Int)), some (.int (v6 : Int)), some (.int toll), some (.ref t), some (.ref pc), some (.int (UM.S toll n rows rows.length).paid), some (.ref pe), some (.ref ST), some (.ref pcc), some (.int (UM.at0 (UM.top toll n rows) 0)), some (.ref ppp), some (.int (UM.Gs toll n rows rows.length)), none, u16, u17])
          ⟨Evl.Ex.refl _, _, _, rfl⟩ (fun i σ H' _ p => SqL.of (p.1 _ _ hFF)) (fun m z σ H20 H21 hi p y => ?_) (fun σ H' p => ?_)
        · obtain ⟨e20, u16, u17, rfl⟩ := p
          obtain ⟨rfl, hx⟩ := y
          obtain ⟨bq, cc, rfl, hbq, hcc⟩ := hds _ (List.mem_of_getElem? hx)
          have hl1 := low cc hcc
          have hl2 := UM.top_least (toll := toll) n1 hcc.len hcc.lt
          walk_at "rd"
          refine ⟨_, _, toll, n, rows, cc, rfl, dp_sb (ex_sb e20) hd19, o, dp_nats ((ex_sb e20).t _ _ hbq), hcc, fun H22 e22 => ?_⟩
          walk_at "rd"
          rw [decide_eq_false (by omega)]
          refine iteF ?_
          walk_at "rd"
          rw [decide_eq_false (by omega)]
          refine iteF ?_
          walk_at "rd"
          have e202 := Evl.Ex.trans e20 e22
          refine ⟨_, _, toll, n, rows, cc, rfl, dp_sb (ex_sb e202) hd19, o, dp_nats ((ex_sb e202).t _ _ hbq), hcc, fun H23 e23 => ?_⟩
          walk_at "rd"
          refine r_nei ?_
          rw [decide_eq_true rfl]
          refine iteF ?_
          walk_at "rd"
          exact ⟨Evl.Ex.trans e202 e23, _, _, rfl⟩
        · obtain ⟨e20, u16, u17, rfl⟩ := p
          have hown := C_own (toll := toll) (n := n) (rows := rows) (Nat.le_refl rows.length)
          have hbest := UM.best_C (toll := toll) (rows := rows) n1
          walk_at "rd"
          refine ⟨_, _, toll, n, rows, chs toll n rows rows.length, rfl, dp_sb (ex_sb e20) hd19, o, dp_nats ((ex_sb e20).t _ _ hpc19), hco, fun H22 e22 => ?_⟩
          rw [hown]
          walk_at "rd"
          refine r_nei ?_
          rw [decide_eq_true rfl]
          refine iteF ?_
          walk_at "rd"
          have e202 := Evl.Ex.trans e20 e22
          refine ⟨_, _, toll, n, rows, UM.best toll n rows, rfl, dp_sb (ex_sb e202) hd19, o, dp_nats ((ex_sb e202).t _ _ hpcc19), hbo, fun H23 e23 => ?_⟩
          rw [hbest]
          walk_at "rd"
          refine r_nei ?_
          rw [decide_eq_true rfl]
          refine iteF ?_
          walk_at "rd"
          rw [decide_eq_false (by omega)]
          refine iteF ?_
          walk_at "rd"
          refine r_I (.inl ⟨by decide, by decide⟩) ?_
          walk_at "rd"
          refine r_I (.inl ⟨by omega, by omega⟩) ?_
          walk_at "rd"
          refine r_I (.inl ⟨by decide, by decide⟩) ?_
          walk_at "rd"
          refine r_I (.inl ⟨by omega, by omega⟩) ?_
          walk_at "rd"
          have hup := UM.upper o.g
          have hmul : (2 * (n : Int) + 1) * UM.Gs toll n rows rows.length ≤ (2 * (n : Int) + 1) * UM.at0 (UM.top toll n rows) 0 := Int.mul_le_mul_of_nonneg_left hge (by omega)
          have ea : 2 * (n : Int) * toll = 2 * ((n : Int) * toll) := Int.mul_assoc _ _ _
          rw [ea, decide_eq_false (by omega)]
          refine iteF ?_
          walk_at "rd"
          exact ⟨s19.ex (Evl.Ex.trans e202 e23), _, _, _, _, _, _, _, _, _, _, _, _, _, _, _, rfl⟩
      · walk_at "rd"
        refine ⟨st, c, ms, _, rfl, by decide, by decide, s7, fun H8 v8 k8 d8 a8 b8 => ?_⟩
        have s8 := s7.step k8 d8
        walk_at "rd"
        refine r_eqi (ifB (fun b1 => ?_) (fun b1 => ?_))
        · walk_at "rd"
          refine ⟨st, c, ms, 1 + j5, v6, rfl, by omega, by omega, b6, s8, fun H9 t vs rows k9 d9 ht hw hp hl hr => ?_⟩
          exact tail _ _ ⟨t, vs, rows, rfl, s8.step k9 d9, ht, hw, hp, hl, hr⟩
        · walk_at "rd"
          refine ⟨st, c, ms, 1 + j5, v6, rfl, by omega, by omega, b6, s8, fun H9 t vs rows k9 d9 ht hw hp hl hr => ?_⟩
          exact tail _ _ ⟨t, vs, rows, rfl, s8.step k9 d9, ht, hw, hp, hl, hr⟩
    · walk_at "rd"
      exact k _
end
end PU
/-! the end: the head's run, the law's walk. -/
open PySem PySem.W PySem.Calls PyProof.Rows
set_option maxHeartbeats 0 in
theorem PySem.Challenge.cw_turnshelf_k96_whole_under_way_within_holds : PySem.Challenge.rw_turnshelf_k96_whole_under_way_within.Holds := by
  w_on; o_law
  refine HandSHeadRun.head_any (r := K96.R) (q := view K96.R.prog [45]) (H := K96.hk) (ob := K96.ob) (M := 4000) (loose := K96.loose) (d := HandSHeadRun.topDef K96.R.prog 45) (kwd := []) K96.ob_eq
    (by kernel_rfl) (fun s => by kernel_rfl) K96.run (by kernel_rfl) (by kernel_rfl) (by kernel_rfl) (by rfl) (by first | assumption | decide +kernel) (by decide +kernel) ⟨rfl, rfl, rfl, rfl, rfl, by decide +kernel⟩ ?hw ?hc
  case hw => w_witness2
  case hc =>
    refine Ts.walkG (l := PySem.Challenge.rw_turnshelf_k96_whole_under_way_within) (n := 63) (k := 8) (x := "_law_script") rfl (by decide) (by kernel_rfl) ⟨rfl, by decide, by decide⟩ ?F
    intro w mg fa h Y G hmg0
    obtain ⟨K, KX, c⟩ := Y
    have hmg : mg ("law" : PySem.Str) = some (.ref fa) := by
      have e : (HandSHeadRun.topDef K96.R.prog 45).name = ("law" : PySem.Str) := by kernel_rfl
      rw [← e]
      exact hmg0
    have T : Ts.Tx K96.fa K96.fn K mg := Ts.tx_of KX G c
    have ef := hmg.symm.trans (T.g 31)
    cases ef
    exact ⟨K, PU.sp_law K, KX, fun H a ns hl hS => ⟨a, ns, rfl, hS, Nat.le_trans hl (by decide), fun _ => rfl⟩, fun base _ _ => PU.ok_law T⟩
