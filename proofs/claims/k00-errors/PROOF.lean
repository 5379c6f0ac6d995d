import PyProof.Rows.All
import Wide.All
import OpenK.AllK
import Wide.FinOn
import KE.KStateDown
import KE.KIsAll
import KE.KExcIs
import KE.KTryMore
import HandS.ForMost
import HandS.ForExc
import HandS.TryMany
import HandS.ExcCtx
import HandS.Hot
import HandS.HotCalls
import HandS.ExcInit
import HandS.ExcIs
import HandS.ExcField
import HandS.IsInst
import HandS.Zip
import HandS.Defaults
import HandS.Conv
import HandS.Flow
import HandS.CallSlots
import HandS.Head0
import HandS.Head1
import HandS.Head2
import HandS.HeadEnd
import HandS.HeadHook1
import HandS.HeadHook2
import HandS.HeadHook3
import HandS.HeadHook4
import HandS.Codes
import HandS.Style
import PySem.Challenge.RW_foldkept_k00_errors_as_told
set_option Elab.async false
set_option linter.all false
set_option maxRecDepth 100000
set_option maxHeartbeats 4000000
namespace Fk
open PySem PySem.Spec PyProof.Rows L2

/-! ### defs that are called while no repr is under way -/
structure FnG (P : Program) (w : World) (K : PySem.W.Frag) (mg : Str → Option Value) (base : Heap)
    (Z : CXT) (k : Nat) (f : Addr) (fd : FuncData) (ps : List Str) (sp : Sp) : Prop where
  len : ∀ vs H Q E, sp vs H Q E → vs.length = ps.length
  go : ∀ (A : Around) (out : List Env) (s : Shared) (H : Hp) (ar : Args) (us : List Value)
    (vs : List V) (Q : VK) (E : XK), A.guards = some [] → Room k A →
    Env0 P w K mg base A out s H → BindsTo s fd ar (ps.zip us) → Vals vs us → sp vs H Q E →
    codeAny (model P w) A (.call (.ref f) ar) (CR Z out P w H s Q E) s
section
variable {P : Program} {w : World} {K : PySem.W.Frag} {mg : Str → Option Value} {base : Heap} {Z : CXT}
theorem FnG.of {k : Nat} {f : Addr} {fd : FuncData} {ps : List Str} {sp : Sp}
    (F : FnOk P w K mg base Z k f fd ps sp) : FnG P w K mg base Z k f fd ps sp :=
  ⟨F.len, fun A o s H ar us vs Q E _ => F.run A o s H ar us vs Q E⟩
/-- the end of a body is the end of its call -/
theorem sp_end {X : Cx} {out : List Env} {s : Shared} {H : Hp} {Q : VK} {fl : Flow} {s' : Shared}
    (hp : X.prog = P) (hw : X.w = w) (hs : X.s_0 = s) (hH : X.H_0 = H) (ho : X.fs = frs out) (hx : X.ex = [])
    (h : SP X [] { nx := fun _ G => Q .non G, rt := Q } fl s') :
    ∃ u, CE out P w H s Q u s' ∧ (fl = .ret u ∨ (fl = .next ∧ u = .none)) := by
  subst hp hw hs hH
  have fin : ∀ {σ : L2.St} {G : Hp} {v : V} {u : Value}, Inv X [] σ G s' → RelV v u → Q v G →
      CE out X.prog X.w X.H_0 X.s_0 Q u s' := by
    intro σ G v u J r q
    have b := J.base
    rw [ho, hx] at b
    exact ⟨v, G, J.os, J.bare, b, J.hok, r, q⟩
  cases fl with
  | ret u => obtain ⟨v, σ, G, J, r, q⟩ := h; exact ⟨u, fin J r q, .inl rfl⟩
  | next => obtain ⟨σ, G, J, q⟩ := h; exact ⟨_, fin (v := V.non) (u := Value.none) J rfl q, .inr ⟨rfl, rfl⟩⟩
  | brk => obtain ⟨_, _, _, q⟩ := h; exact q.elim
  | cont => obtain ⟨_, _, _, q⟩ := h; exact q.elim
theorem kinds_all {ps N : List Str} {sc : Scope} (S : FnScope N ps sc) (us : List Value) :
    ((ps.zip us).all fun y => sc.names.lookup y.1 == some .local || sc.names.lookup y.1 == some .cell) = true := by
  refine List.all_eq_true.mpr fun y hy => ?_
  rcases S.par y.1 (List.of_mem_zip (a := y.1) (b := y.2) hy).1 with q | q <;> rw [q] <;> rfl
/-- a def with what it is written as -/
theorem okG {x qual : Str} {st : Stmt} {f : Addr} {fd : FuncData} {N ps : List Str} {k : Nat} {sp : Sp}
    (F : Fun K x qual st f fd) (S : FnScope N ps (defScope st))
    (len : ∀ vs H Q E, sp vs H Q E → vs.length = ps.length)
    (hb : ∀ (cdv : Value) (A : Around) (out : List Env) (s : Shared) (H : Hp) (vs : List V) (Q : VK) (E : XK),
      (A.deeper (envOfC qual (defScope st) s.heap.objs.size f cdv)).guards = some [] →
      Room k (A.deeper (envOfC qual (defScope st) s.heap.objs.size f cdv)) → sp vs H Q E →
      ∃ t, PSs (cxOf Z P w K mg base N qual (defScope st) f cdv A out s H E) (defBody st) t ∧
        t { nx := fun _ G => Q .non G, rt := Q } (L2.start N vs) H) :
    FnG P w K mg base Z (k + 1) f fd ps sp := by
  obtain ⟨oc, od, kV, doc, pm, an, cdv, ct, osl, rfl, lk, hcd⟩ := F.ex
  refine ⟨len, fun A out s H ar us vs Q E hG hr e0 hbi r hs => ?_⟩
  have KX : K.In s.heap := e0.mod.kin.keeps fun b o e => (e0.bs b o e).1
  refine Att.call_fn KX (e0.mod.nolimit.keeps fun b o e => (e0.bs b o e).1) lk hcd hr.depth hbi
    (kinds_all S us) (fun s1 x => ?_) S.co S.gen S.kind
  obtain ⟨t, ht, hq⟩ := hb cdv A out s H vs Q E hG (hr.deeper _) hs
  have I := inv_start (CX := Z) (N := N) (E := E) (K := K) (mg := mg) (base := base) S hr.hd e0 (len _ _ _ _ hs) r x
  exact wpAny_mono (ht.run [] s1 _ H _ I hq)
    (fun fl s' h => by
      obtain ⟨u, c, rfl | ⟨rfl, rfl⟩⟩ := sp_end (P := P) (w := w) (out := out) (s := s) (H := H) rfl rfl rfl rfl rfl rfl h <;> exact c) fun e s' h => h
end
section
variable {X : Cx} {Z : CXT} {k : Nat} {f : Addr} {fd : FuncData} {ps : List Str} {sp : Sp} {dvs : List V}
  {ds : List Value} {E : XK} {x : Str} {p pos : Pos} {e : Expr} {es : List Expr} {t : TA}
theorem run_g {pins : List (Addr × Obj)} {σ : L2.St} {H : Hp} {s : Shared} {Q : VK} {us : List Value}
    {vs : List V} (F : FnG X.prog X.w X.K X.mg X.base Z k f fd ps sp) (hG : X.A.guards = some []) (hr : Room k X.A)
    (hb : Binds X.K fd ps ds) (hd : Vals dvs ds) (hx : Passes Z X E) (I : Inv X pins σ H s) (r : Vals vs us)
    (h : sp (vs ++ dvs) H Q E) : wpAny (model X.prog X.w) X.A (call (.ref f) us) (EP X pins σ Q) X.xe s := by
  have r2 : Vals (vs ++ dvs) (us ++ ds) := r.append hd
  have hl : (us ++ ds).length = ps.length := by rw [← r2.length]; exact F.len _ _ _ _ h
  refine wpAny_call (codeAny_mono (F.go X.A X.stack s H ⟨us, []⟩ (us ++ ds) (vs ++ dvs) Q E hG hr I.env0
    (hb s us I.kIn hl) r2 h) fun r s' hq => ?_)
  cases r with
  | error e => exact hx pins σ H s e s' I hq
  | ok fl => cases fl with
    | ret u => exact I.after hq
    | _ => exact False.elim hq
theorem pe_callG (F : FnG X.prog X.w X.K X.mg X.base Z k f fd ps sp) (hG : X.A.guards = some []) (hr : Room k X.A)
    (hg : Gl X x) (hm : X.mg x = some (.ref f)) (hk : PySem.W.keepIn X.K (.ref f) = true) (hb : Binds X.K fd ps ds)
    (hd : Vals dvs ds) (hx : Passes Z X E) (ha : PA X (e :: es) t) (hdb : (x == ("__debug__" : Str)) = false := by decide)
    (he : starEach (e :: es) X.env = (false, eval e X.env) :: starEach es X.env := by rfl)
    (hpl : (backTo pos (starEach es X.env)).any (·.1) = false := by rfl) :
    PE X (.Call (.Name x p) (e :: es) [] pos) (tCall sp dvs E t) := by
  constructor
  intro pins s σ H Q I h
  refine wpAny_Call_Name_kw (ld_glob I hg hm ?_ hdb)
  exact PySem.W.callWith_K (h₀ := X.base) I.ok.mod.kin hk (thn (ha.run pos pins s σ H _ I h)
    fun us s1 ⟨vs, H1, I1, r, q⟩ => ⟨I1.kIn, run_g F hG hr hb hd hx I1 r q⟩) he hpl
end

/-! ### defs that are called in an except suite with the exception that is held -/
structure FnE (P : Program) (w : World) (K : PySem.W.Frag) (mg : Str → Option Value) (base : Heap)
    (k : Nat) (f : Addr) (fd : FuncData) (ps : List Str) (sp : Addr → Value → Option Addr → Sp) : Prop where
  len : ∀ a c d vs H Q E, sp a c d vs H Q E → vs.length = ps.length
  go : ∀ (A : Around) (out : List Env) (s : Shared) (H : Hp) (ar : Args) (us : List Value)
    (vs : List V) (Q : VK) (p : Addr × Obj) (c : Value) (d : Option Addr), L2H.RoomH k A → Zc c d p.2 →
    (∃ z, p.2.data = .fields z) → L2H.PinOk out H s p →
    Env0 P w K mg base A out s H → BindsTo s fd ar (ps.zip us) → Vals vs us → sp p.1 c d vs H Q E0 →
    codeAny (model P w) A (.call (.ref f) ar) (CR CX0 out P w H s Q E0) s
/-- the exception that is held stands among the pins -/
structure Held (X : Cx) (a : Addr) (c : Value) (d : Option Addr) : Prop where
  at_ : ∃ o : Obj, (a, o) ∈ X.pn ∧ Zc c d o ∧ ∃ z, o.data = .fields z
theorem Held.suite {X : Cx} {a : Addr} {oe : Obj} {c : Value} {d : Option Addr} {pn : List (Addr × Obj)}
    (hz : Zc c d oe) (hf : ∃ z, oe.data = .fields z) : Held (X.suite a ((a, oe) :: pn)) a c d :=
  ⟨oe, List.mem_cons_self, hz, hf⟩
section
variable {P : Program} {w : World} {K : PySem.W.Frag} {mg : Str → Option Value} {base : Heap}
theorem Held.inDef {N : List Str} {qual : Str} {sc : Scope} {f : Addr} {cd : Value} {A : Around} {out : List Env} {s : Shared} {H : Hp} {E : XK}
    {p : Addr × Obj} {c : Value} {d : Option Addr} (hz : Zc c d p.2) (hf : ∃ z, p.2.data = .fields z) :
    Held (L2H.cxH CX0 P w K mg base N qual sc f cd A out s H E p).nox p.1 c d := ⟨p.2, List.mem_singleton.mpr rfl, hz, hf⟩
theorem okE {x qual : Str} {st : Stmt} {f : Addr} {fd : FuncData} {N ps : List Str} {k : Nat}
    {sp : Addr → Value → Option Addr → Sp} (F : Fun K x qual st f fd) (S : FnScope N ps (defScope st))
    (len : ∀ a c d vs H Q E, sp a c d vs H Q E → vs.length = ps.length)
    (hb : ∀ (cdv : Value) (A : Around) (out : List Env) (s : Shared) (H : Hp) (vs : List V) (Q : VK) (p : Addr × Obj) (c : Value) (d : Option Addr),
      Held (L2H.cxH CX0 P w K mg base N qual (defScope st) f cdv A out s H E0 p).nox p.1 c d →
      L2H.RoomH k (A.deeper (envOfC qual (defScope st) s.heap.objs.size f cdv)) → sp p.1 c d vs H Q E0 →
      ∃ t, PSs (L2H.cxH CX0 P w K mg base N qual (defScope st) f cdv A out s H E0 p).nox (defBody st) t ∧
        t { nx := fun _ G => Q .non G, rt := Q } (L2.start N vs) H) :
    FnE P w K mg base (k + 1) f fd ps sp := by
  obtain ⟨oc, od, kV, doc, pm, an, cdv, ct, osl, rfl, lk, hcd⟩ := F.ex
  refine ⟨len, fun A out s H ar us vs Q p c d hr hz hf hpin e0 hbi r hs => ?_⟩
  have KX : K.In s.heap := e0.mod.kin.keeps fun b o e => (e0.bs b o e).1
  refine Att.call_fn KX (e0.mod.nolimit.keeps fun b o e => (e0.bs b o e).1) lk hcd hr.depth hbi
    (kinds_all S us) (fun s1 x => ?_) S.co S.gen S.kind
  have I := L2H.inv_startH (CX := CX0) (N := N) (E := E0) (K := K) (mg := mg) (base := base) S hpin e0 (len _ _ _ _ _ _ _ hs) r x
  obtain ⟨t, ht, hq⟩ := hb cdv A out s H vs Q p c d (Held.inDef hz hf) (hr.deeper _) hs
  exact wpAny_mono (ht.nox.run [] s1 _ H _ I hq)
    (fun fl s' h => by
      obtain ⟨u, c, rfl | ⟨rfl, rfl⟩⟩ := sp_end (P := P) (w := w) (out := out) (s := s) (H := H) rfl rfl rfl rfl rfl rfl h <;> exact c) fun e s' h => h
end
section
variable {X : Cx} {k : Nat} {f a : Addr} {c : Value} {d : Option Addr} {fd : FuncData} {ps : List Str}
  {sp : Addr → Value → Option Addr → Sp} {x : Str} {p pos : Pos} {e : Expr} {es : List Expr} {t : TA}
theorem pe_callE (F : FnE X.prog X.w X.K X.mg X.base k f fd ps sp) (hh : Held X a c d) (hr : L2H.RoomH k X.A)
    (hg : Gl X x) (hm : X.mg x = some (.ref f)) (hk : PySem.W.keepIn X.K (.ref f) = true) (hb : Binds X.K fd ps [])
    (ha : PA X (e :: es) t) (hdb : (x == ("__debug__" : Str)) = false := by decide)
    (he : starEach (e :: es) X.env = (false, eval e X.env) :: starEach es X.env := by rfl)
    (hpl : (backTo pos (starEach es X.env)).any (·.1) = false := by rfl) :
    PE X (.Call (.Name x p) (e :: es) [] pos) (tCall (sp a c d) [] E0 t) := by
  obtain ⟨o, hp, hz, hf⟩ := hh.at_
  constructor
  intro pins s σ H Q I h
  refine wpAny_Call_Name_kw (ld_glob I hg hm ?_ hdb)
  refine PySem.W.callWith_K (h₀ := X.base) I.ok.mod.kin hk (thn (ha.run pos pins s σ H _ I h)
    fun us s1 ⟨vs, H1, I1, r, q⟩ => ⟨I1.kIn, ?_⟩) he hpl
  have q' : sp a c d vs H1 Q E0 := by
    have z : sp a c d (vs ++ []) H1 Q E0 := q
    rw [List.append_nil] at z
    exact z
  have hl : (us ++ []).length = ps.length := by rw [List.append_nil, ← r.length]; exact F.len _ _ _ _ _ _ _ q'
  have b := hb s1 us I1.kIn hl
  rw [List.append_nil] at b
  have p1 := I1.pin (a, o) (List.mem_append_left _ hp)
  have pk : L2H.PinOk X.stack H1 s1 (a, o) := ⟨p1.1, p1.2.1, fun hm => (List.mem_cons.mp (I1.stkSub a hm)).elim p1.2.2.1 p1.2.2.2.1, p1.2.2.2.2⟩
  refine wpAny_call (codeAny_mono (F.go X.A X.stack s1 H1 ⟨us, []⟩ us vs Q (a, o) c d hr hz hf pk I1.env0 b r q') fun r s' hq => ?_)
  cases r with
  | error e => exact False.elim hq
  | ok fl => cases fl with
    | ret u => exact I1.after hq
    | _ => exact False.elim hq
/-- isinstance(e, c), e the exception that is held -/
def rIsH (K : PySem.W.Frag) (a : Addr) (cls : Value) (d : Option Addr) : List V → Hp → VK → Prop := fun xs H Q =>
  ∃ (D : Addr) (c : V) (cv : Value) (b : Bool), xs = [.ref a, c] ∧ cls = .ref D ∧ ExcC K D ∧ (d = none ∨ ∃ dd fs, d = some dd ∧ H dd = some (.xd fs)) ∧
    ClsV c cv ∧ PySem.W.kitOne K (.ref D) cv = some b ∧ Q (.bl b) H
theorem call_isH {cls : Value} (hh : Held X a cls d) :
    CallR X (.builtin "isinstance") (rIsH X.K a cls d) := by
  intro pins s σ H xs us Q I r h
  obtain ⟨o, hp, hz, z, hf⟩ := hh.at_
  obtain ⟨D, c', cv, b, rfl, rfl, C, hdd, hcv, e, q⟩ := h
  obtain ⟨u1, u2, rfl, r1, r2⟩ := vals2 r
  obtain rfl : u1 = Value.ref a := r1
  have e2 := hcv.eq r2
  subst e2
  have g := (I.pin (a, o) (List.mem_append_left _ hp)).1
  obtain ⟨oc, od, oda, osl⟩ := o
  obtain ⟨h1, h2⟩ := hz
  dsimp only at h1 h2 hf
  subst h1 h2 hf
  have hcl : (PySem.W.clsIn X.K D).isSome = true := by
    obtain ⟨cd, hc, _⟩ := PySem.W.any_some C.hd
    rw [hc]; rfl
  have fin : ∀ tk : Nat, EP X pins σ Q (.bool b) { s with toks := tk } := fun tk => ⟨.bl b, H, I.tok tk, rfl, q⟩
  rcases hdd with rfl | ⟨dd, fs, rfl, hd⟩
  · have J : PySem.W.InstAt s.heap a _ D none := ⟨g, rfl, rfl, trivial⟩
    exact PySem.W.kia_one (PySem.W.kitx_exc hcl C.hg C.hk C.hs C.ha C.hn C.ht C.hm) I.kIn J e (fun z => nomatch z) fin
  · obtain ⟨mA, ⟨ob, es, ep, ho, _⟩, _⟩ := I.hok dd _ hd
    have J : PySem.W.InstAt s.heap a _ D (some ob) := ⟨g, rfl, rfl, ho⟩
    exact PySem.W.kia_one (PySem.W.kitx_exc hcl C.hg C.hk C.hs C.ha C.hn C.ht C.hm) I.kIn J e (fun z => nomatch z) fin
/-- e.n, e the exception that is held -/
def tXh (K : PySem.W.Frag) (a : Addr) (cls : Value) (d : Option Addr) (n : Str) (te : TE) : TE := fun σ H Q => te σ H fun x H1 => x = .ref a ∧
  ∃ (C dd : Addr) (fs : List (Str × V)) (v : V), cls = .ref C ∧ XfC K C ∧ PySem.W.findIn K (.ref C) n = some none ∧ d = some dd ∧ H1 dd = some (.xd fs) ∧ fs.lookup n = some v ∧ Q v H1
theorem pe_xh {te : TE} {n : Str} (hh : Held X a c d) (he : PE X e te) (hb : attributeBase e n X.env (eval e X.env) = eval e X.env := by rfl) :
    PE X (.Attribute e n pos) (tXh X.K a c d n te) := by
  obtain ⟨o, hp, hz, z, hf⟩ := hh.at_
  constructor
  intro pins s σ H Q I h
  refine attr_of hb (thn (he.run pins s σ H _ I h) fun u s1 ⟨x, H1, I1, rx, ex, C, dd, fs, v, ec, T, hno, ed, ea, l, q⟩ => ?_)
  subst ex ed ec
  obtain rfl : u = Value.ref a := rx
  have g := (I1.pin (a, o) (List.mem_append_left _ hp)).1
  obtain ⟨mA, hns, hr⟩ := I1.hok dd _ ea
  obtain ⟨od, ho, hl⟩ := lookIn_ns hns
  obtain ⟨u, hu, ru⟩ := RelO.some_of (v := v) (o := mA n) (by have y := hr n; rw [l] at y; exact y)
  have J : PySem.W.InstAt s1.heap a o C (some od) :=
    ⟨g, hz.1, by unfold PySem.W.notCls; rw [hf] <;> rfl, by rw [hz.2]; exact ho⟩
  exact HandSPX.exc_get I1.kIn J T.ga T.gg T.exC (PySem.W.findObj_own T.hdC hno rfl (by rw [hl, hu]))
    (handed_of ru) ⟨v, H1, I1.tok _, ru, q⟩
end

/-! ### an own exception class whose __init__ calls that of its own base -/
/-- what the class must have: its __init__ is ValueError's -/
structure BaseI (K : PySem.W.Frag) (B : Addr) : Prop where
  rd : PySem.W.readsIn K B (.type "type") = true
  ga : PySem.W.specialIn K (.ref B) "__getattribute__" = some (some (.builtin "type.__getattribute__"))
  iv : PySem.W.findCls K (.ref B) (.type "type") "__init__" = some (.val (.builtin "ValueError.__init__"))
section
variable {X : Cx} {B : Addr} {x : Str} {e : Expr} {es : List Expr} {ta : TA} {p p1 p2 pos : Pos}
theorem pe_binit {pl : Sem Bool} (T : BaseI X.K B) (hg : Gl X x) (hm : X.mg x = some (.ref B))
    (ha : PA X (e :: es) ta) (hdb : (x == ("__debug__" : Str)) = false := by decide)
    (hc : eval (.Call (.Attribute (.Name x p1) "__init__" p2) (e :: es) [] pos) X.env = (do
      let ov ← eval (.Name x p1) X.env
      standAt p2.atName
      let (f, first) ← holding [ov] (getMethod ov "__init__" pl)
      callWith pos f first (backTo pos (starEach (e :: es) X.env)) (backToKw pos (keywordEach [] X.env))) := by rfl)
    (he : starEach (e :: es) X.env = (false, eval e X.env) :: starEach es X.env := by rfl)
    (hpl : (backTo pos (starEach es X.env)).any (·.1) = false := by rfl) :
    PE X (.Call (.Attribute (.Name x p1) "__init__" p2) (e :: es) [] pos) (tVeI X.K ta) := by
  constructor
  intro pins s σ H Q I h
  refine PySem.W.methodCall_KW (ld_glob I hg hm ?_ hdb) hc
  refine PySem.W.method_cls I.kIn T.ga (PySem.W.cls_value I.kIn T.rd T.iv (by decide +kernel) ?_)
  show wpAny _ _ (callWith pos (Value.builtin "ValueError.__init__") [] (backTo pos (starEach (e :: es) X.env)) []) _ _ _
  refine PyProof.Rows.callWith_method1 (thn (ha.run pos pins _ σ H _ (I.tok _) h)
    fun us s1 ⟨vs, H1, I1, r1, a, C, ws, ev, hl, T, ea, q⟩ => ?_) he hpl
  subst ev
  cases r1 with
  | @cons _ u0 _ ur ra rw' =>
    obtain rfl : u0 = Value.ref a := ra
    have hlen : ur.length ≤ sizeLine := by
      have := Paired.length rw'
      rw [sizeLine_eq]; omega
    exact oinit_ok T I1 ea hlen fun s' J => ⟨.non, H1, J, rfl, q⟩
/-- C(), whose __init__ stores nothing -/
def tMk0 (C : Addr) (sp : Sp) : L2.St → Hp → XK → Prop := fun σ H Q => ∀ a, H a = none →
  sp [.ref a] (upd H a (exo a C none)) (fun v H2 => v = .non ∧ H2 a = some (exo a C none) ∧ Q (.ref C) none (del H2 a)) E0
theorem mk_bare {pins : List (Addr × Obj)} {σ : L2.St} {H1 H2 : Hp} {Q : XK} {hp hp2 : Heap}
    {g1 : Array GenState} {d1 : Drawn} {t1 : Nat} {os1 : OsState} {s2 : Shared} {a C : Addr}
    (T : Raises X (.ref C)) (I1 : Inv X pins σ H1 ⟨hp, g1, d1, t1, os1⟩)
    (ha : hp.objs.size ≤ a) (k : ∀ b o, hp.get? b = some o → hp2.get? b = some o)
    (un : Un (frs X.stack) [] (upd H1 a (exo a C none)) H2 hp2 s2.heap) (hok : HOk X.prog X.w H2 s2.heap)
    (ho : s2.os = os1) (hb : AllBare s2.gens) (ea : H2 a = some (exo a C none)) (q : Q (.ref C) none (del H2 a)) :
    MkP X pins σ Q (.ref a) s2 := by
  obtain ⟨t0, hoe⟩ := exo_at hok ea
  have hn : H1 a = none := I1.hok.fresh ha
  obtain ⟨G, g1', g2'⟩ := restrict s2.heap fun b => decide (b ≠ a)
  have gk : ∀ b, b ≠ a → G.get? b = s2.heap.get? b := fun b hb => g1' b (decide_eq_true hb)
  have ge : G.get? a = none := g2' a (by simp)
  have na : ∀ {b : Addr} {o : Obj}, hp.get? b = some o → b ≠ a := fun z => Nat.ne_of_lt (Nat.lt_of_lt_of_le (Heap.lt_size z) ha)
  have up : ∀ {b : Addr}, b ≠ a → H1 b = none → upd H1 a (exo a C none) b = none := fun hb n => by rw [upd_ne hb]; exact n
  have U : Un (frs X.stack) [] H1 (del H2 a) hp G := {
    keep := fun b o z n hf hx => by rw [gk b (na z)]; exact un.keep b o (k b o z) (up (na z) n) hf hx
    slot := fun b o z n hf hx => by rw [gk b (na z)]; exact un.slot b o (k b o z) (up (na z) n) hf hx
    free := fun b o z n hx => by rw [del_ne (na z)]; exact un.free b o (k b o z) (up (na z) n) hx
    there := fun b o z hx => by rw [gk b (na z)]; exact un.there b o (k b o z) hx
    tups := fun b xs z => by
      rw [del_ne (ne_of_none z hn)]
      exact un.tups b xs (by rw [upd_ne (ne_of_none z hn)]; exact z)
    frzs := fun b o v z => by
      rw [del_ne (ne_of_none z hn)]
      exact un.frzs b o v (by rw [upd_ne (ne_of_none z hn)]; exact z)
    tbls := fun b ps z => by
      rw [del_ne (ne_of_none z hn)]
      exact un.tbls b ps (by rw [upd_ne (ne_of_none z hn)]; exact z) }
  have hok3 : HOk X.prog X.w (del H2 a) G := fun b o z => by
    have hba : b ≠ a := fun e => by rw [e, del_same] at z; cases z
    rw [del_ne hba] at z
    have noa : ∀ {c : Addr}, H2 c = some (.own b) → c ≠ a := fun hc => at_ne ea hc exo_own
    refine (hok b o z).stay (fun c v hc y => ?_) (fun c hc => by rw [del_ne (noa hc)]; exact hc)
      (fun c xs hc => by rw [del_ne (at_ne ea hc exo_tup)]; exact hc)
    have hca : c ≠ a := by
      rcases hc with hc | hc
      · rw [hc]; exact hba
      · exact noa hc
    rw [gk c hca]; exact y
  obtain ⟨h2, g2, d2, t2, os2⟩ := s2
  dsimp only at ho hb hoe gk U hok3 un hok
  have J : Inv X pins σ (del H2 a) ⟨G, g2, d2, t2, os2⟩ := I1.call' (ch := []) ho U hok3 hb (fun b z => absurd z (by simp))
  refine ⟨a, _, _, ⟨G, g2, d2, t2, os2⟩, _, .ref C, none, rfl, J, fun b o z => ?_, ge, hoe, ⟨rfl, rfl⟩, rfl, rfl, del_same, rfl, hb, T, q⟩
  by_cases hba : b = a
  · rw [hba, ge] at z; cases z
  · exact (gk b hba).symm.trans z
theorem pmk_bare {Z : CXT} {C fI : Addr} {k : Nat} {fd : FuncData} {ps : List Str} {sp : Sp} (T : OexC X.K C)
    (iC : PySem.W.findIn X.K (.ref C) "__init__" = some (some (.ref fI))) (tI : PySem.W.typeIn X.K (.ref fI) = some (.type "function"))
    (F1 : FnOk X.prog X.w X.K X.mg X.base Z k fI fd ps sp) (hr : Room (k + 1) X.A) (hb : Binds X.K fd ps []) (hx : Passes Z X E0)
    (hg : Gl X x) (hm : X.mg x = some (.ref C)) (hdb : (x == ("__debug__" : Str)) = false := by decide) :
    PMk X (.Call (.Name x p) [] [] pos) (tMk0 C sp) := by
  intro pins s σ H Q I h
  obtain ⟨nm, q, N, bs, bm, sn, sub, ab, col, dd, k0, k1, k2, k3, k5, hC, hbm⟩ := T.cls
  refine wpAny_Call_Name_kw (ld_glob I hg hm ?_ hdb)
  refine PySem.W.callWith_K0 I.kIn T.kC ?_
  show wpAny _ _ (call (.ref C) []) _ _ _
  obtain ⟨hp, g, dr, tk, os⟩ := s
  have hsz : hp.objs.size ≤ hp.objs.size + 1 := Nat.le_succ _
  have hq := h (hp.objs.size + 1) (I.hok.fresh hsz)
  have kk : ∀ b o, hp.get? b = some o → ((hp.push (PySem.W.kdv_tup [])).push (PySem.HandSPX.excO C hp.objs.size)).get? b = some o :=
    fun b o e => Heap.get?_push_of_some _ (Heap.get?_push_of_some _ e)
  have hget : ((hp.push (PySem.W.kdv_tup [])).push (PySem.HandSPX.excO C hp.objs.size)).get? (hp.objs.size + 1) =
    some (PySem.HandSPX.excO C hp.objs.size) := by heap_get
  have I2 : Inv X pins σ (upd H (hp.objs.size + 1) (exo (hp.objs.size + 1) C none))
      ⟨(hp.push (PySem.W.kdv_tup [])).push (PySem.HandSPX.excO C hp.objs.size), g, dr, tk, os⟩ :=
    I.laid (t' := tk) (a := hp.objs.size + 1) (o := exo (hp.objs.size + 1) C none)
      (h' := (hp.push (PySem.W.kdv_tup [])).push (PySem.HandSPX.excO C hp.objs.size)) kk hsz (exo_ok hget)
  have hl : [Value.ref (hp.objs.size + 1)].length = ps.length := F1.len _ _ _ _ hq
  have hbi := hb _ [Value.ref (hp.objs.size + 1)] I2.kIn (by rw [List.append_nil]; exact hl)
  rw [List.append_nil] at hbi
  refine wpAny_call (PySem.HandSPX.call_own F.excBase_ValueError (fun Y => PySem.HandSPX.refsVE_contains Y bm hbm)
    (I.kIn _ _ hC) (PySem.W.looks_findIn I.kIn iC) (fun self => PySem.W.bind_fn I.kIn self tI) (by rw [sizeLine_eq]; decide)
    (codeAny_mono (F1.run _ X.stack _ _ ⟨[Value.ref (hp.objs.size + 1)], []⟩ [Value.ref (hp.objs.size + 1)] _ _ E0
      (hr.make C [] []) (I2.env0.make C [] []) hbi (.cons (show RelV (.ref _) _ from rfl) .nil) hq) fun r s' hq' => ?_))
  cases r with
  | error er => exact hx pins σ _ _ er s' I2 hq'
  | ok fl => cases fl with
    | ret u =>
      obtain ⟨v, H2, os2, bare2, un2, hok2, rv, ev, ea, q2⟩ := hq'
      subst ev
      exact ⟨rv, mk_bare (raises_own T.exC T.tyC) I hsz kk un2 hok2 os2 bare2 ea q2⟩
    | _ => exact False.elim hq'
end

/-! ### repr of data -/
/-- data as Dp, or a dict of flat things -/
inductive DpR (K : PySem.W.Frag) (H : Hp) : V → PyData → Prop
  | of {v : V} {d : PyData} (h : Dp K H v d) (n : d.hasDict = false) : DpR K H v d
  | dict {a : Addr} {k : Str} {j : Int} (h : H a = some (.dK [(.inr k, .int j)])) : DpR K H (.ref a) (.dict [(.str k, .int j)])
def rRepr (K : PySem.W.Frag) : List V → Hp → VK → Prop := fun xs H Q => ∃ (v : V) (d : PyData), xs = [v] ∧ DpR K H v d ∧
  d.showable = true ∧ d.depth ≤ 60 ∧ d.shown.length ≤ sizeLine ∧ Q (.str d.shown) H
theorem call_repr {X : Cx} (hG : X.A.guards = some []) (hu : X.A.units + 64 < cLine) : CallR X (.builtin "repr") (rRepr X.K) := by
  intro pins s σ H xs us Q I r h
  obtain ⟨v, d, rfl, hd, hs, hdp, hsz, q⟩ := h
  obtain ⟨u, rfl, ru⟩ := vals1 r
  have one : ∀ (a : Addr) (as : List Addr), u = .ref a → Reads s.heap (.ref a) d as → (d.hasDict = true → sysModules ∉ as) →
      wpAny (model X.prog X.w) X.A (call (.builtin "repr") [u]) (EP X pins σ Q) X.xe s := by
    intro a as hu2 hr hsm
    subst hu2
    exact repr_of_reads' hr hs hsm hG (by omega) (fun _ _ e => e)
      (fun h' t tk hk => ⟨.str d.shown, H, I.kept hk, ⟨_, rfl⟩, q⟩) hsz
  cases hd with
  | of hd hn =>
    obtain ⟨as, hr⟩ := Dp.reads I d v u hd ru
    cases hr with
    | none => exact PySem.P.repr_of_none ⟨.str _, H, I.tok _, ⟨_, rfl⟩, q⟩
    | bool b => exact PySem.P.repr_of_bool ⟨.str _, H, I.tok _, ⟨_, rfl⟩, (by cases b <;> exact q)⟩
    | int i t => exact PySem.P.repr_of_int (of_decide_eq_true hs) ⟨.str _, H, I.tok _, ⟨_, rfl⟩, q⟩
    | str x t => exact PySem.P.repr_of_str ⟨.str _, H, I.tok _, ⟨_, rfl⟩, q⟩ hsz
    | list h1 h2 h3 h4 => exact one _ _ rfl (.list h1 h2 h3 h4) (fun z => by rw [hn] at z; cases z)
    | tuple h1 h2 h3 h4 => exact one _ _ rfl (.tuple h1 h2 h3 h4) (fun z => by rw [hn] at z; cases z)
    | dict h1 h2 h3 h4 h5 => simp [PyData.hasDict] at hn
  | @dict a k j hd =>
    obtain rfl : u = Value.ref a := ru
    obtain ⟨_, hsy, vs, rk, o, es, ep, ho, hx, hdat, _, hp, _⟩ := I.hok a _ hd
    cases rk with
    | @cons _ kv _ _ r1 r2 =>
      cases r2
      obtain ⟨ek, ev⟩ := r1
      obtain ⟨kk, vv⟩ := kv
      dsimp only at ek ev
      subst ek
      obtain ⟨tv, rfl⟩ := ev
      generalize hes : es.toList = l at hp
      cases hp with
      | @cons e _ l' _ ik iv pr =>
        cases pr
        have ik2 : keyIs (.inr k) e.key = true := ik
        obtain ⟨i, t, e1, e2⟩ | ⟨y, t, e1, e2⟩ := keyIs_shape ik2
        · cases e1
        · cases e1
          have iv2 : e.val = Value.int j tv := iv
          have rr : Reads s.heap (.ref a) (.dict [(.str k, .int j)]) (a :: [] ++ []) := by
            refine Reads.dict ho hx.1 hdat ?_ ?_
            · rw [hes]
              show ReadsAll s.heap [e.key] [.str k] _
              rw [e2]
              exact ReadsAll.cons (as := []) (bs := []) (Reads.str _ _) ReadsAll.nil
            · rw [hes]
              show ReadsAll s.heap [e.val] [.int j] _
              rw [iv2]
              exact ReadsAll.cons (as := []) (bs := []) (Reads.int _ _) ReadsAll.nil
          refine one _ _ rfl rr (fun _ hm => ?_)
          have e3 : sysModules = a := by simpa using hm
          rw [e3] at hsy
          simp at hsy
end Fk

set_option Elab.async false
set_option linter.all false
set_option maxRecDepth 100000
set_option maxHeartbeats 4000000
namespace Fk
open PySem PySem.Spec PyProof.Rows L2
/-! ### the end of a law whose def is told by FnG -/
/-- from a heap of which the script alone may be tracked -/
theorem law_from {P : Program} {w : World} {K : PySem.W.Frag} {mg mb : Str → Option Value} {Z : CXT} {k : Nat} {fa a : Addr}
    {fd : FuncData} {x : Str} {sp : Sp} {s₁ : Shared} {vs : List Value} {H : Hp}
    (KX : K.In s₁.heap) (h1 : s₁.heap.Ns mainGlobals mg) (h2 : s₁.heap.Ns builtinsNs mb) (h3 : ∀ x : Str, x ≠ "__name__" → mb x = bootBuiltins x)
    (h4 : s₁.heap.NoLimit) (h5 : s₁.gens = #[]) (ha : s₁.heap.get? a = some { cls := .type "list", data := .seq vs.toArray })
    (hr : Room k callerA) (F : ∀ base : Heap, K.In base → base.Ns mainGlobals mg → FnG P w K mg base Z k fa fd [x] sp)
    (hb : ∀ (s : Shared) (u : Value), BindsTo s fd ⟨[u], []⟩ [(x, u)]) (hO : Only H)
    (hs : sp [.ref a] H (fun v _ => v = .bl true) E0) (hZ : ∀ H e s', Z [] H s₁ E0 e s' → False)
    (hok : HOk P w H s₁.heap) (hA : ∀ b, H b ≠ none → b = a) (hK : H a ≠ none → K.lookup a = none) :
    codeAny (model P w) callerA (.call (.ref fa) ⟨[.ref a], []⟩)
      (fun r s' => r = .ok (.ret (.bool true)) ∧ PySem.OldK s₁.heap s'.heap ∧ s'.os = s₁.os ∧ AllBare s'.gens) s₁ := by
  have un : ∀ {b : Addr} {o : Obj}, s₁.heap.get? b = some o → (b = a → H b = none) → (hidT s₁.heap H).get? b = some o := by
    intro b o e n
    refine hidT_get e ?_
    cases q : H b with
    | none => rfl
    | some u =>
      have z := n (hA b (by rw [q]; simp))
      rw [q] at z; cases z
  have ns : ∀ {b : Addr} {m : Str → Option Value}, s₁.heap.Ns b m → (hidT s₁.heap H).Ns b m := by
    rintro b m ⟨o, es, ep, e, d, r⟩
    refine ⟨o, es, ep, un e (fun z => ?_), d, r⟩
    subst z
    rw [ha] at e
    cases e
    cases d
  have KB : K.In (hidT s₁.heap H) := fun b o e => un (KX b o e) (fun z => by
    subst z
    cases q : H b with
    | none => rfl
    | some u =>
      have y := hK (by rw [q]; simp)
      rw [y] at e; cases e)
  have M : Mod K mg (hidT s₁.heap H) := ⟨KB, ns h1, ⟨mb, ns h2, h3⟩, let ⟨mc, y1, y2⟩ := h4; ⟨mc, ns y1, y2⟩⟩
  have nil : ∀ b : Addr, b ∈ frs [] → False := fun b hb => absurd (show b ∈ ([] : List Addr) from hb) (by simp)
  have e0 : Env0 P w K mg (hidT s₁.heap H) callerA [] s₁ H :=
    { frames := rfl, mod := M, bs := fun b o e => of_hidT e, bsz := Nat.le_of_eq (hidT_size _ _), funs := trivial,
      frf := fun b hb => (nil b hb).elim, hok := hok, bare := .of_eq h5 }
  refine codeAny_mono ((F _ KB (ns h1)).go callerA [] s₁ H ⟨[.ref a], []⟩ [.ref a] [.ref a] _ _ rfl hr e0
    (hb s₁ (.ref a)) (.cons (show RelV (.ref a) _ from rfl) .nil) hs) fun r s' h => ?_
  cases r with
  | error e => exact (hZ H e s' h).elim
  | ok fl => cases fl with
    | ret u =>
      obtain ⟨v, H', os, bare, U, hok', r', q⟩ := h
      obtain rfl : v = .bl true := q
      obtain rfl : u = Value.bool true := r'
      refine ⟨rfl, PySem.OldK.of_keep fun b o e => ?_, os, bare⟩
      rcases hO b with z | ⟨ob, xs, z⟩
      · exact U.keep b o e z (fun y => nil b y) (by simp)
      · obtain ⟨e1, _⟩ := hok b _ z
        obtain ⟨e2, _⟩ := hok' b _ (U.frzs b ob _ z)
        rw [e] at e1
        cases e1
        exact e2
    | _ => exact False.elim h
theorem walk_G {l : PySem.W.OpenLaw} {n k : Nat} {q : Program} {loose : List Str} {XP : (Str → Option Value) → Heap → Prop}
    {YP : World → Heap → Prop} {d : DefRec} {Z : CXT} {x : Str} (hn : l.most = some n) (hn2 : n ≤ sizeLine)
    (hdf : d.params.defaults = []) (hr : Room k callerA)
    (F : ∀ (w : World) (mg : Str → Option Value) (fa : Addr) (h : Heap), YP w h → h.Ns mainGlobals mg → mg d.name = some (.ref fa) →
      ∃ (K : PySem.W.Frag) (fd : FuncData) (sp : Sp), K.In h ∧ (∀ (s : Shared) (u : Value), BindsTo s fd ⟨[u], []⟩ [(x, u)]) ∧
        (∀ (H : Hp) (a : Addr) (ns : List Int), ns.length ≤ n → Only H → SqL K H a (ns.map V.int) → sp [.ref a] H (fun v _ => v = .bl true) E0) ∧
        ∀ base : Heap, K.In base → base.Ns mainGlobals mg → FnG l.prog w K mg base Z k fa fd [x] sp)
    (hZ : ∀ (H : Hp) (s : Shared) (e : Value) (s' : Shared), Z [] H s E0 e s' → False) :
    PySem.W.WalkO q loose XP YP l.row.toRowW d [] (fun f vs => PySem.call f vs) := by
  refine Att.attach_call hn hdf fun w s₀ s₁ mg mb fa o pm cd doc a vs ns G Y ho hd hcd hmg hobj hints hlen hg => ?_
  obtain ⟨K, fd, sp, KX, hb, hsp, hF⟩ := F w mg fa _ Y G.T.g hmg
  have rv := vals_ints hints
  have lz : ns.length ≤ sizeLine := Nat.le_trans hlen hn2
  have go := fun (H : Hp) (hO : Only H) (hS : SqL K H a (ns.map V.int)) => law_from (H := H) KX G.T.g G.T.b G.T.builtins G.T.nolimit hg hobj hr hF hb hO
    (hsp H a ns hlen hO hS) fun H e s' => hZ H s₁ e s'
  cases hk : K.lookup a with
  | some o =>
    have e := KX a o hk
    rw [hobj] at e
    cases e
    refine go (fun _ => none) (fun _ => .inl rfl) (.inr ⟨_, vs.toArray, _, hk, rfl, rfl, rfl, ?_, ?_⟩) (fun b u z => nomatch z) (fun b z => absurd rfl z) fun z => absurd rfl z
    · rw [List.size_toArray, hints.length]; exact lz
    · simpa using rv
  | none =>
    refine go (upd (fun _ => none) a (.frz { cls := .type "list", data := .seq vs.toArray } (.lst (ns.map V.int)))) (fun b => ?_)
      (.inl (.inr ⟨_, upd_same⟩)) (fun b u z => ?_) (fun b z => ?_) fun _ => hk
    · by_cases hb : b = a
      · subst hb; exact .inr ⟨_, _, upd_same⟩
      · exact .inl (upd_ne hb)
    · by_cases hb : b = a
      · subst hb
        rw [upd_same] at z
        cases z
        exact ⟨hobj, by rw [List.length_map]; exact lz, vs, _, rv, hobj⟩
      · rw [upd_ne hb] at z
        cases z
    · by_cases hb : b = a
      · exact hb
      · exact absurd (upd_ne hb) z
end Fk

set_option Elab.async false
set_option linter.all false
set_option maxRecDepth 100000
set_option maxHeartbeats 4000000
namespace Fk
open PySem PySem.Spec PyProof.Rows L2
/-! ### readings, step by step: one lemma a word of the terms -/
section
variable {σ : L2.St} {H : Hp} {Q : VK} {QA : List V → Hp → Prop} {QB : Bool → Hp → Prop} {QS : L2.St → Hp → Prop} {D : Ends} {v x y : V} {i : Nat} {k : Bool}
  {te ta tb : TE} {tA tr : TA} {t u : TS} {c c' : TT} {g : TG} {r : R2} {K : PySem.W.Frag} {vs : List V} {m n : Int}
theorem rd_var (h : σ[i]? = some (some v)) (q : Q v H) : tVar i σ H Q := ⟨v, h, q⟩
theorem rd_c (q : Q v H) : tC v σ H Q := q
theorem rd_op (q : ta σ H fun x H1 => tb σ H1 fun y H2 => r x y H2 Q) : tOp r ta tb σ H Q := q
theorem rd_un {r : V → Hp → VK → Prop} (q : ta σ H fun x H1 => r x H1 Q) : tUn r ta σ H Q := q
theorem rd_rI0 {g : Int → Int → V} (q : Q (g m n) H) : rI0 g (.int m) (.int n) H Q := ⟨m, n, rfl, rfl, q⟩
theorem rd_rI {C : Int → Int → Prop} {g : Int → Int → V} (hc : C m n) (q : Q (g m n) H) : rI C g (.int m) (.int n) H Q := ⟨m, n, rfl, rfl, hc, q⟩
theorem rd_rU {g : Int → V} (q : Q (g m) H) : rU g (.int m) H Q := ⟨m, rfl, q⟩
theorem rd_cb {r : List V → Hp → VK → Prop} (q : tA σ H fun vs H1 => r vs H1 Q) : tCB r tA σ H Q := q
theorem rd_cons (q : te σ H fun x H1 => tr σ H1 fun xs H2 => QA (x :: xs) H2) : tCons te tr σ H QA := q
theorem rd_nil (q : QA [] H) : tNil σ H QA := q
theorem rd_seq (q : t { D with nx := u D } σ H) : tSeq t u D σ H := q
theorem rd_asg (q : te σ H fun x H1 => g x σ H1 D.nx) : tAsg te g D σ H := q
theorem rd_gname (q : QS (σ.set i (some v)) H) : gName i v σ H QS := q
theorem rd_ret (q : te σ H D.rt) : tRet te D σ H := q
theorem rd_retN (q : D.rt .non H) : tRetN D σ H := q
theorem rd_drop (q : te σ H fun _ H1 => D.nx σ H1) : tDrop te D σ H := q
theorem rd_next (q : D.nx σ H) : tNext D σ H := q
theorem rd_ifs (q : c σ H fun b H1 => if b = true then t D σ H1 else u D σ H1) : tIfS c t u D σ H := q
theorem rd_test (q : te σ H fun x H' => ∃ k, x = .bl k ∧ QB k H') : tTest te σ H QB := q
theorem rd_tB (q : te σ H fun x H' => ∃ k, x = .bl k ∧ QB k H') : tB te σ H QB := q
theorem rd_bl {A : Bool → Prop} (q : A k) : ∃ k', V.bl k = .bl k' ∧ A k' := ⟨k, rfl, q⟩
theorem rd_and (q : c σ H fun b H1 => if b = true then c' σ H1 QB else QB false H1) : tAnd c c' σ H QB := q
theorem rd_or (q : c σ H fun b H1 => if b = true then QB true H1 else c' σ H1 QB) : tOr c c' σ H QB := q
theorem rd_not (q : c σ H fun b H1 => QB (!b) H1) : tNot c σ H QB := q
theorem rd_andV (q : ta σ H fun x H1 => ∃ k, x = .bl k ∧ if k = true then tb σ H1 Q else Q (.bl false) H1) : tAndV ta tb σ H Q := q
theorem rd_orV (q : ta σ H fun x H1 => ∃ k, x = .bl k ∧ if k = true then Q (.bl true) H1 else tb σ H1 Q) : tOrV ta tb σ H Q := q
theorem rd_notV (q : ta σ H fun x H1 => ∃ k, x = .bl k ∧ Q (.bl (!k)) H1) : tNotV ta σ H Q := q
theorem rd_eqI (q : Q (.bl (decide (m = n))) H) : rEq (.int m) (.int n) H Q := ⟨rfl, by rw [show decide (V.int m = V.int n) = decide (m = n) from by simp]; exact q⟩
theorem rd_neI (q : Q (.bl (!decide (m = n))) H) : rNe (.int m) (.int n) H Q := ⟨rfl, by rw [show decide (V.int m = V.int n) = decide (m = n) from by simp]; exact q⟩
theorem rd_int1 {A : Int → Prop} {B : Bool → Prop} (q : A m) : (∃ i, [V.int m] = [.int i] ∧ A i) ∨ ∃ k : Bool, [V.int m] = [.bl k] ∧ B k := .inl ⟨m, rfl, q⟩
theorem rd_dgetS (q : ta σ H fun x H1 => tb σ H1 fun y H2 => ∃ a v, x = .ref a ∧ DGet H2 a y (some v) ∧ Q v H2) : tDGet ta tb σ H Q := q
theorem rd_dget {a : Addr} {A : V → Prop} (g : DGet H a y (some v)) (q : A v) : ∃ b w, V.ref a = .ref b ∧ DGet H b y (some w) ∧ A w := ⟨a, v, rfl, g, q⟩
theorem rd_dput {td ty tv : TE} (q : tv σ H fun v H1 => td σ H1 fun x H2 => ty σ H2 fun y H3 => ∃ a H4, x = .ref a ∧ DPut H3 a y v H4 ∧ D.nx σ H4) : sDPut td ty tv D σ H := q
theorem rd_dputE {a : Addr} {H' : Hp} {A : Hp → Prop} (g : DPut H a y v H') (q : A H') : ∃ b H4, V.ref a = .ref b ∧ DPut H b y v H4 ∧ A H4 := ⟨a, H', rfl, g, q⟩
theorem rd_len {a : Addr} {ys : List V} {A : List V → Prop} (h : SqL K H a ys ∨ SqT K H a ys) (q : A ys) :
    ∃ (p : Addr) (zs : List V), [V.ref a] = [.ref p] ∧ (SqL K H p zs ∨ SqT K H p zs) ∧ A zs := ⟨a, ys, rfl, h, q⟩
theorem rd_ixL {a : Addr} {ys : List V} {z : V} (h : SqL K H a ys) (e : atI ys m = some z) (q : Q z H) : rIxL K (.ref a) (.int m) H Q := ⟨a, ys, m, z, rfl, rfl, h, e, q⟩
theorem rd_ixT {a : Addr} {ys : List V} {z : V} (h : SqT K H a ys) (e : atI ys m = some z) (q : Q z H) : rIxT K (.ref a) (.int m) H Q := ⟨a, ys, m, z, rfl, rfl, h, e, q⟩
theorem rd_call {sp : Sp} {E : XK} (q : tA σ H fun vs H1 => sp vs H1 Q E) : tCall sp [] E tA σ H Q := by
  have e : (fun vs H1 => sp (vs ++ []) H1 Q E) = fun vs H1 => sp vs H1 Q E := by funext vs H1; rw [List.append_nil]
  show tA σ H (fun vs H1 => sp (vs ++ []) H1 Q E)
  rw [e]; exact q
theorem rd_callS {sp : Sp} {E : L2.St → XK} (q : tA σ H fun vs H1 => sp vs H1 Q (E σ)) : tCallS sp E tA σ H Q := q
theorem rd_lst (q : tA σ H fun xs H1 => xs.length ≤ sizeLine ∧ ∀ p, H1 p = none → Q (.ref p) (upd H1 p (.lst xs))) : tLst tA σ H Q := q
theorem rd_tup (q : tA σ H fun xs H1 => xs.length ≤ sizeLine ∧ ∀ p, H1 p = none → Q (.ref p) (upd H1 p (.tup xs))) : tTup tA σ H Q := q
theorem rd_new {n : Nat} {B : Addr → Prop} (h : n ≤ 1000) (q : ∀ p, H p = none → B p) : n ≤ sizeLine ∧ ∀ p, H p = none → B p := ⟨Nat.le_of_lt (small1000 h), q⟩
theorem rd_forL {tl : TE} {tb : TS} (q : tl σ H fun x H1 => ∃ (a : Addr) (xs : List V), x = .ref a ∧ SqL K H1 a xs ∧ ∃ Pv : Nat → L2.St → Hp → Prop, Pv 0 σ H1 ∧
    (∀ i σ H, i ≤ xs.length → Pv i σ H → SqL K H a xs) ∧
    (∀ i y σ H, xs[i]? = some y → Pv i σ H → g y σ H fun σ2 H2 => tb { D with nx := Pv (i + 1), ct := Pv (i + 1), bk := D.nx } σ2 H2) ∧
    ∀ σ H, Pv xs.length σ H → D.nx σ H) (mono : ∀ (A B : V → Hp → Prop), (∀ x G, A x G → B x G) → tl σ H A → tl σ H B) : tFor (iList K tl) g tb D σ H := by
  refine mono _ _ (fun x G z => ?_) q
  obtain ⟨a, xs, e, hS, Pv, h0, hl, hs, hd⟩ := z
  exact ⟨a, e, ⟨xs, hS⟩, for_list Pv h0 hl hs hd⟩
theorem rd_forT {tl : TE} {tb : TS} (q : tl σ H fun x H1 => ∃ (a : Addr) (xs : List V), x = .ref a ∧ SqT K H1 a xs ∧ ∃ Pv : Nat → L2.St → Hp → Prop, Pv 0 σ H1 ∧
    (∀ i σ H, i ≤ xs.length → Pv i σ H → SqT K H a xs) ∧
    (∀ i y σ H, xs[i]? = some y → Pv i σ H → g y σ H fun σ2 H2 => tb { D with nx := Pv (i + 1), ct := Pv (i + 1), bk := D.nx } σ2 H2) ∧
    ∀ σ H, Pv xs.length σ H → D.nx σ H) (mono : ∀ (A B : V → Hp → Prop), (∀ x G, A x G → B x G) → tl σ H A → tl σ H B) : tFor (iTup K tl) g tb D σ H := by
  refine mono _ _ (fun x G z => ?_) q
  obtain ⟨a, xs, e, hS, Pv, h0, hl, hs, hd⟩ := z
  exact ⟨a, e, ⟨xs, hS⟩, for_tup Pv h0 hl hs hd⟩
/-- for x in range(n) -/
theorem rd_forR {ta : TA} {tb : TS} {n : Nat} (q : ta σ H fun vs H1 => vs = [.int n] ∧ n < 2 ^ 62 ∧ ∃ Pv : Nat → L2.St → Hp → Prop, Pv 0 σ H1 ∧
    (∀ i σ H, i < n → Pv i σ H → g (.int (0 + (i : Int))) σ H fun σ2 H2 => tb { D with nx := Pv (i + 1), ct := Pv (i + 1), bk := D.nx } σ2 H2) ∧
    ∀ σ H, Pv n σ H → D.nx σ H) (mono : ∀ (A B : List V → Hp → Prop), (∀ x G, A x G → B x G) → ta σ H A → ta σ H B) : tFor (iRng1 ta) g tb D σ H := by
  refine mono _ _ (fun x G z => ?_) q
  obtain ⟨e, hn, Pv, h0, hs, hd⟩ := z
  refine ⟨n, e, by omega, by omega, ?_⟩
  rw [Int.toNat_natCast]
  exact for_range Pv h0 hs hd
theorem rd_disp {trs : List (TE × TE)} (q : ∀ p, H p = none → tPairs trs σ (upd H p (.dK [])) fun ps H2 => H2 p = some (.dK []) ∧ ∃ kvs : List (Key × V), ps = kvs.map (fun kv => (kV kv.1, kv.2)) ∧ kvs.length ≤ 15 ∧ Q (.ref p) (upd H2 p (.dK (mergeK [] kvs)))) : tDisp trs σ H Q := q
theorem rd_pnil {QP : List (V × V) → Hp → Prop} (q : QP [] H) : tPairs [] σ H QP := q
theorem rd_pcons {QP : List (V × V) → Hp → Prop} {trs : List (TE × TE)} (q : ta σ H fun x H1 => tb σ H1 fun y H2 => tPairs trs σ H2 fun ps H3 => QP ((x, y) :: ps) H3) : tPairs ((ta, tb) :: trs) σ H QP := q
theorem rd_list {a : Addr} {ys : List V} {A : List V → Addr → Prop} (h : SqL K H a ys ∨ SqT K H a ys) (q : ∀ l, H l = none → A ys l) :
    ∃ (p : Addr) (zs : List V), [V.ref a] = [.ref p] ∧ (SqL K H p zs ∨ SqT K H p zs) ∧ ∀ l, H l = none → A zs l := ⟨a, ys, rfl, h, q⟩
theorem merge_nd : ∀ {kvs acc : List (Key × V)}, (kvs.map (·.1)).Nodup → (∀ q ∈ kvs, ∀ r ∈ acc, ¬ r.1 = q.1) → mergeK acc kvs = acc ++ kvs
  | [], acc, _, _ => by simp [mergeK]
  | q :: kvs, acc, nd, ha => by
    rw [List.map_cons, List.nodup_cons] at nd
    have e : putK acc q.1 q.2 = acc ++ [q] := putK_new _ (by
      unfold valV
      rw [List.find?_eq_none.mpr fun r hr => by simpa using ha q List.mem_cons_self r hr]; rfl)
    show mergeK (putK acc q.1 q.2) kvs = _
    rw [e, merge_nd nd.2 fun r hr s hs => ?_, List.append_assoc]; rfl
    rcases List.mem_append.mp hs with h | h
    · exact ha r (List.mem_cons_of_mem _ hr) s h
    · obtain rfl := List.mem_singleton.mp h
      exact fun z => nd.1 (z ▸ List.mem_map_of_mem hr)
theorem merge_nil {kvs : List (Key × V)} (nd : (kvs.map (·.1)).Nodup) : mergeK [] kvs = kvs := by
  rw [merge_nd nd fun _ _ _ h => by simp at h]; rfl
theorem mono_var {A B : V → Hp → Prop} (h : ∀ x G, A x G → B x G) (q : tVar i σ H A) : tVar i σ H B := let ⟨v, e, z⟩ := q; ⟨v, e, h _ _ z⟩
theorem same_new {a : Addr} {o : HO} (h : H a = none) : Same H (upd H a o) := fun b u e => by rw [upd_ne (ne_of_none e h)]; exact e
theorem same_upd {H1 : Hp} {a : Addr} {o : HO} (s : Same H H1) (h : H a = none) : Same H (upd H1 a o) := fun b u e => by rw [upd_ne (ne_of_none e h)]; exact s b u e
theorem rd_ifT {A B : Prop} (q : A) : if true = true then A else B := iteT q
theorem rd_ifF {A B : Prop} (q : B) : if false = true then A else B := iteF q
theorem rd_ifDT {p A B : Prop} [Decidable p] (h : p) (q : A) : if decide p = true then A else B := by rw [decide_eq_true h]; exact iteT q
theorem rd_ifDF {p A B : Prop} [Decidable p] (h : ¬ p) (q : B) : if decide p = true then A else B := by rw [decide_eq_false h]; exact iteF q
theorem rd_ifNT {p A B : Prop} [Decidable p] (h : ¬ p) (q : A) : if (!decide p) = true then A else B := by rw [decide_eq_false h]; exact iteT q
theorem rd_ifNF {p A B : Prop} [Decidable p] (h : p) (q : B) : if (!decide p) = true then A else B := by rw [decide_eq_true h]; exact iteF q
theorem rd_if {p A B : Prop} [Decidable p] (h1 : p → A) (h2 : ¬ p → B) : if decide p = true then A else B := by
  by_cases h : p
  · exact rd_ifDT h (h1 h)
  · exact rd_ifDF h (h2 h)
theorem rd_ifN {p A B : Prop} [Decidable p] (h1 : ¬ p → A) (h2 : p → B) : if (!decide p) = true then A else B := by
  by_cases h : p
  · exact rd_ifNF h (h2 h)
  · exact rd_ifNT h (h1 h)
end
end Fk

set_option Elab.async false
set_option linter.all false
set_option maxRecDepth 100000
set_option maxHeartbeats 4000000
namespace Fk
open PySem PySem.Spec PyProof.Rows L2
/-! ### what the written part says of the error classes, as a Bool -/
def oexB (K : PySem.W.Frag) (C : Addr) : Bool := (match K.lookup C with
  | some ⟨.type "type", _, .cls cd, sl⟩ => (match cd.mro, sl.toList with
    | .ref C' :: bm, [_, _, _, _, some (.builtin n), _] => C' == C && (n == "ValueError.__new__" && (!cd.hasDel && (cd.hasDict && HandSPX.refsVE bm)))
    | _, _ => false)
  | _ => false) && (decide (PySem.W.findIn K (.ref C) "__setattr__" = some (some (.builtin "object.__setattr__"))) &&
    (decide (PySem.W.subIn K (.ref C) (.type "BaseException") = some true) && (decide (PySem.W.typeIn K (.ref C) = some (.type "type")) && PySem.W.keepIn K (.ref C))))
theorem two {a b : Bool} (h : (a && b) = true) : a = true ∧ b = true := Bool.and_eq_true_iff.mp h
theorem oexB_ok {K : PySem.W.Frag} {C : Addr} (h : oexB K C = true) : OexC K C := by
  obtain ⟨h0, h⟩ := two h
  obtain ⟨h1, h⟩ := two h
  obtain ⟨h2, h⟩ := two h
  obtain ⟨h3, h4⟩ := two h
  refine ⟨?_, of_decide_eq_true h1, of_decide_eq_true h2, of_decide_eq_true h3, h4⟩
  split at h0
  · rename_i dd cd sl ho
    split at h0
    · rename_i C' bm k0 k1 k2 k3 n k5 hm hs
      obtain ⟨y1, h0⟩ := two h0
      obtain ⟨y2, h0⟩ := two h0
      obtain ⟨y3, h0⟩ := two h0
      obtain ⟨y4, y5⟩ := two h0
      obtain rfl := eq_of_beq y1
      obtain rfl := eq_of_beq y2
      obtain ⟨nm, bs, mro, ns, qn, hd, sn, sub, ab, col, del⟩ := cd
      dsimp only at hm y3 y4
      subst hm y4
      obtain rfl : del = false := by simpa using y3
      obtain rfl : sl = #[k0, k1, k2, k3, some (.builtin "ValueError.__new__"), k5] := by
        obtain ⟨l⟩ := sl
        simp only at hs
        rw [hs]
      exact ⟨nm, qn, ns, bs, bm, sn, sub, ab, col, dd, k0, k1, k2, k3, k5, ho, y5⟩
    · cases h0
  · cases h0
def isB (K : PySem.W.Frag) (D : Addr) : Bool :=
  decide (PySem.W.findIn K (.ref D) "__getattribute__" = some (some (.builtin "BaseException.__getattribute__"))) &&
  (decide (PySem.W.findIn K (.ref D) "__getattr__" = some none) && (decide (PySem.W.subIn K (.ref D) (.type "BaseException") = some true) &&
  (PySem.W.hasDictIn K D && (decide (PySem.W.findIn K (.ref D) "__class__" = some (some (.builtin "object.__class__"))) &&
  (decide (PySem.W.specialIn K (.builtin "object.__class__") "__get__" = some (some (.builtin "getset_descriptor.__get__"))) &&
  (decide (PySem.W.takesIn K (.builtin "object.__class__") = some true) && decide (PySem.W.mroIn K D (.type "object") = some true)))))))
theorem isB_ok {K : PySem.W.Frag} {D : Addr} (h : isB K D = true) : ExcC K D ∧ XfC K D := by
  obtain ⟨h1, h⟩ := two h
  obtain ⟨h2, h⟩ := two h
  obtain ⟨h3, h⟩ := two h
  obtain ⟨h4, h⟩ := two h
  obtain ⟨h5, h⟩ := two h
  obtain ⟨h6, h⟩ := two h
  obtain ⟨h7, h8⟩ := two h
  exact ⟨⟨of_decide_eq_true h1, of_decide_eq_true h2, of_decide_eq_true h3, h4, of_decide_eq_true h5, of_decide_eq_true h6, of_decide_eq_true h7, of_decide_eq_true h8⟩,
    ⟨of_decide_eq_true h1, of_decide_eq_true h2, of_decide_eq_true h3, h4⟩⟩
def baseB (K : PySem.W.Frag) (B : Addr) : Bool := PySem.W.readsIn K B (.type "type") &&
  (decide (PySem.W.specialIn K (.ref B) "__getattribute__" = some (some (.builtin "type.__getattribute__"))) &&
  (match PySem.W.findCls K (.ref B) (.type "type") "__init__" with
  | some (.val v) => decide (v = .builtin "ValueError.__init__")
  | _ => false))
theorem baseB_ok {K : PySem.W.Frag} {B : Addr} (h : baseB K B = true) : BaseI K B := by
  obtain ⟨h1, h⟩ := two h
  obtain ⟨h2, h3⟩ := two h
  refine ⟨h1, of_decide_eq_true h2, ?_⟩
  split at h3
  · rename_i v e
    rw [e, of_decide_eq_true h3]
  · cases h3
/-- the class named x, with its own fields fs, among the classes named ys; B the base of all -/
structure ErC (K : PySem.W.Frag) (ys : List Str) (x : Str) (fs : List Str) : Prop where
  oex : OexC K (He.ga K x)
  init : PySem.W.findIn K (.ref (He.ga K x)) "__init__" = some (some (.ref (He.ma K (He.ga K x) "__init__")))
  fn : PySem.W.typeIn K (.ref (He.ma K (He.ga K x) "__init__")) = some (.type "function")
  is : ExcC K (He.ga K x)
  xf : XfC K (He.ga K x)
  no : ∀ f ∈ fs, PySem.W.findIn K (.ref (He.ga K x)) f = some none
  up : PySem.W.exmOne K (.ref (He.ga K x)) (.ref (He.ga K "FoldError")) = some true
  ve : PySem.W.kitOne K (.ref (He.ga K x)) (.type "ValueError") = some true
  kit : ∀ y ∈ ys, PySem.W.kitOne K (.ref (He.ga K x)) (.ref (He.ga K y)) = some (decide (x = y))
def erB (K : PySem.W.Frag) (ys : List Str) (x : Str) (fs : List Str) : Bool := oexB K (He.ga K x) &&
  (decide (PySem.W.findIn K (.ref (He.ga K x)) "__init__" = some (some (.ref (He.ma K (He.ga K x) "__init__")))) &&
  (decide (PySem.W.typeIn K (.ref (He.ma K (He.ga K x) "__init__")) = some (.type "function")) && (isB K (He.ga K x) &&
  (fs.all (fun f => decide (PySem.W.findIn K (.ref (He.ga K x)) f = some none)) &&
  (decide (PySem.W.exmOne K (.ref (He.ga K x)) (.ref (He.ga K "FoldError")) = some true) &&
  (decide (PySem.W.kitOne K (.ref (He.ga K x)) (.type "ValueError") = some true) &&
  ys.all fun y => decide (PySem.W.kitOne K (.ref (He.ga K x)) (.ref (He.ga K y)) = some (decide (x = y)))))))))
theorem erB_ok {K : PySem.W.Frag} {ys : List Str} {x : Str} {fs : List Str} (h : erB K ys x fs = true) : ErC K ys x fs := by
  obtain ⟨h1, h⟩ := two h
  obtain ⟨h2, h⟩ := two h
  obtain ⟨h3, h⟩ := two h
  obtain ⟨h4, h⟩ := two h
  obtain ⟨h5, h⟩ := two h
  obtain ⟨h6, h⟩ := two h
  obtain ⟨h7, h8⟩ := two h
  obtain ⟨i1, i2⟩ := isB_ok h4
  exact ⟨oexB_ok h1, of_decide_eq_true h2, of_decide_eq_true h3, i1, i2, fun f hf => of_decide_eq_true (List.all_eq_true.mp h5 f hf),
    of_decide_eq_true h6, of_decide_eq_true h7, fun y hy => of_decide_eq_true (List.all_eq_true.mp h8 y hy)⟩
/-! ### __init__ of an error: its fields are laid, the last one ahead -/
def spErr (C : Addr) (fs : List Str) : Sp := fun vs H Q _ => ∃ (a : Addr) (us : List V), vs = .ref a :: us ∧ us.length = fs.length ∧ H a = some (exo a C none) ∧
  ∀ (d : Addr) (H' : Hp), H d = none → d ≠ a → H' a = some (exo a C (some d)) → H' d = some (exd d (fs.zip us).reverse) →
    (∀ b, b ≠ a → b ≠ d → H' b = H b) → Q .non H'
def spErr0 (C : Addr) : Sp := fun vs H Q _ => ∃ (a : Addr), vs = [.ref a] ∧ H a = some (exo a C none) ∧ Q .non H
section
variable {σ : L2.St} {H : Hp} {D : Ends} {te to : TE} {tA : TA} {K : PySem.W.Frag} {a C : Addr} {f : Str} {y : V}
theorem rd_vei {Q : VK} (q : tA σ H fun vs H1 => ∃ (a C : Addr) (ws : List V), vs = .ref a :: ws ∧ ws.length ≤ 1000 ∧ OexC K C ∧ H1 a = some (exo a C none) ∧ Q .non H1) : tVeI K tA σ H Q := q
theorem rd_ost (q : te σ H fun y H1 => to σ H1 fun x H2 => ∃ a C : Addr, x = .ref a ∧ OexC K C ∧ PySem.W.findIn K (.ref C) f = some none ∧
    ((H2 a = some (exo a C none) ∧ ∀ dx, H2 dx = none → dx ≠ a → D.nx σ (upd (upd H2 dx (exd dx [(f, y)])) a (exo a C (some dx)))) ∨
    ∃ (dx : Addr) (fs : List (Str × V)), H2 a = some (exo a C (some dx)) ∧ H2 dx = some (exd dx fs) ∧ fs.length ≤ 900 ∧ D.nx σ (upd H2 dx (exd dx ((f, y) :: fs))))) :
    tOst K f to te D σ H := q
theorem rd_ost1 {A : Hp → Prop} (T : OexC K C) (n : PySem.W.findIn K (.ref C) f = some none) (h : H a = some (exo a C none))
    (q : ∀ dx, H dx = none → dx ≠ a → A (upd (upd H dx (exd dx [(f, y)])) a (exo a C (some dx)))) :
    ∃ b C : Addr, V.ref a = .ref b ∧ OexC K C ∧ PySem.W.findIn K (.ref C) f = some none ∧
      ((H b = some (exo b C none) ∧ ∀ dx, H dx = none → dx ≠ b → A (upd (upd H dx (exd dx [(f, y)])) b (exo b C (some dx)))) ∨
      ∃ (dx : Addr) (fs : List (Str × V)), H b = some (exo b C (some dx)) ∧ H dx = some (exd dx fs) ∧ fs.length ≤ 900 ∧ A (upd H dx (exd dx ((f, y) :: fs)))) :=
  ⟨a, C, rfl, T, n, .inl ⟨h, q⟩⟩
theorem rd_ost2 {A : Hp → Prop} {dx : Addr} {fs : List (Str × V)} (T : OexC K C) (n : PySem.W.findIn K (.ref C) f = some none) (h : H a = some (exo a C (some dx)))
    (hd : H dx = some (exd dx fs)) (hl : fs.length ≤ 900) (q : A (upd H dx (exd dx ((f, y) :: fs)))) :
    ∃ b C : Addr, V.ref a = .ref b ∧ OexC K C ∧ PySem.W.findIn K (.ref C) f = some none ∧
      ((H b = some (exo b C none) ∧ ∀ dx, H dx = none → dx ≠ b → A (upd (upd H dx (exd dx [(f, y)])) b (exo b C (some dx)))) ∨
      ∃ (dx : Addr) (fs : List (Str × V)), H b = some (exo b C (some dx)) ∧ H dx = some (exd dx fs) ∧ fs.length ≤ 900 ∧ A (upd H dx (exd dx ((f, y) :: fs)))) :=
  ⟨a, C, rfl, T, n, .inr ⟨dx, fs, h, hd, hl, q⟩⟩
/-- what is told of an error of the class at C that was made with the values us -/
structure Raised (C : Addr) (fs : List (Str × V)) (H : Hp) (cls : Value) (d : Option Addr) (H' : Hp) : Prop where
  cls : cls = .ref C
  same : Same H H'
  fld : (fs = [] ∧ d = none) ∨ ∃ dd, d = some dd ∧ H' dd = some (.xd fs)
theorem rd_mko {sp : Sp} {dvs : List V} {Q : XK} (q : tA σ H fun vs H1 => vs.length ≤ 1000 ∧ ∀ a, H1 a = none → sp (.ref a :: (vs ++ dvs)) (upd H1 a (exo a C none))
    (fun v H2 => v = .non ∧ ∃ (d : Addr) (fs : List (Str × V)), H2 a = some (exo a C (some d)) ∧ H2 d = some (exd d fs) ∧ H1 d = none ∧ Q (.ref C) (some d) (upd (del H2 a) d (.xd fs))) (fun _ _ _ => False)) :
    tMkO C sp dvs tA σ H Q := q
theorem rd_make {C : Addr} {fs : List Str} {us : List V} {Q : XK} (hl : us.length = fs.length)
    (q : ∀ cls d H', Raised C (fs.zip us).reverse H cls d H' → Q cls d H') (hs : us.length ≤ 1000) :
    us.length ≤ 1000 ∧ ∀ a, H a = none → spErr C fs (.ref a :: (us ++ [])) (upd H a (exo a C none))
      (fun v H2 => v = .non ∧ ∃ (d : Addr) (fs : List (Str × V)), H2 a = some (exo a C (some d)) ∧ H2 d = some (exd d fs) ∧ H d = none ∧ Q (.ref C) (some d) (upd (del H2 a) d (.xd fs)))
      (fun _ _ _ => False) := by
  refine ⟨hs, fun a ha => ⟨a, us, by rw [List.append_nil], hl, upd_same, fun d H' hd ne h1 h2 h3 => ?_⟩⟩
  rw [upd_ne ne] at hd
  refine ⟨rfl, d, _, h1, h2, hd, q _ _ _ ⟨rfl, fun b o e => ?_, .inr ⟨d, rfl, upd_same⟩⟩⟩
  have na := ne_of_none e ha
  have nd := ne_of_none e hd
  rw [upd_ne nd, del_ne na, h3 b na nd, upd_ne na]
  exact e
theorem rd_make0 {C : Addr} {Q : XK} (q : ∀ cls d H', Raised C [] H cls d H' → Q cls d H') : tMk0 C (spErr0 C) σ H Q := by
  refine fun a ha => ⟨a, rfl, upd_same, rfl, upd_same, q _ _ _ ⟨rfl, fun b o e => ?_, .inl ⟨rfl, rfl⟩⟩⟩
  have na := ne_of_none e ha
  rw [del_ne na, upd_ne na]
  exact e
end
section
variable {σ : L2.St} {H : Hp} {Q : VK} {D : Ends} {te to : TE} {tA : TA} {K : PySem.W.Frag} {a : Addr} {c : Value} {d : Option Addr} {n x y : Str} {ys fs : List Str} {v z : V} {xs zs : List V}
theorem held_upd {l : Addr} {o : HO} (h : d = none ∨ ∃ dd fs, d = some dd ∧ H dd = some (.xd fs)) (hl : H l = some (.lst xs)) :
    d = none ∨ ∃ dd fs, d = some dd ∧ upd H l o dd = some (.xd fs) :=
  h.imp id fun ⟨dd, fs, e, z⟩ => ⟨dd, fs, e, (upd_ne (ne_of z hl (fun y => nomatch y))).trans z⟩
theorem held_new {l : Addr} {o : HO} (h : d = none ∨ ∃ dd fs, d = some dd ∧ H dd = some (.xd fs)) (hl : H l = none) :
    d = none ∨ ∃ dd fs, d = some dd ∧ upd H l o dd = some (.xd fs) :=
  h.imp id fun ⟨dd, fs, e, z⟩ => ⟨dd, fs, e, (upd_ne (ne_of_none z hl)).trans z⟩
theorem rd_isH (R : ErC K ys x fs) (hy : y ∈ ys) (hd : d = none ∨ ∃ dd fs, d = some dd ∧ H dd = some (.xd fs)) (q : Q (.bl (decide (x = y))) H) :
    rIsH K a (.ref (He.ga K x)) d [V.ref a, V.ref (He.ga K y)] H Q := ⟨_, _, _, _, rfl, rfl, R.is, hd, ClsV.own _, R.kit y hy, q⟩
theorem rd_isVE (R : ErC K ys x fs) (hd : d = none ∨ ∃ dd fs, d = some dd ∧ H dd = some (.xd fs)) (q : Q (.bl true) H) :
    rIsH K a (.ref (He.ga K x)) d [V.ref a, V.ty "ValueError"] H Q := ⟨_, _, _, _, rfl, rfl, R.is, hd, ClsV.ty _, R.ve, q⟩
theorem rd_xhS (q : te σ H fun x H1 => x = .ref a ∧ ∃ (C dd : Addr) (fs : List (Str × V)) (v : V), c = .ref C ∧ XfC K C ∧ PySem.W.findIn K (.ref C) n = some none ∧
    d = some dd ∧ H1 dd = some (.xd fs) ∧ fs.lookup n = some v ∧ Q v H1) : tXh K a c d n te σ H Q := q
theorem rd_xh {A : V → Prop} {dd : Addr} {gs : List (Str × V)} (R : ErC K ys x fs) (hn : n ∈ fs) (hd : d = some dd) (hg : H dd = some (.xd gs)) (hl : gs.lookup n = some v) (q : A v) :
    V.ref a = .ref a ∧ ∃ (C dd : Addr) (fs : List (Str × V)) (v : V), Value.ref (He.ga K x) = .ref C ∧ XfC K C ∧ PySem.W.findIn K (.ref C) n = some none ∧
      d = some dd ∧ H dd = some (.xd fs) ∧ fs.lookup n = some v ∧ A v := ⟨rfl, _, dd, gs, v, rfl, R.xf, R.no n hn, hd, hg, hl, q⟩
theorem rd_bm {T : String} {r : V → List V → Hp → VK → Prop} (q : to σ H fun x H1 => tyV K T x H1 ∧ tA σ H1 fun xs H2 => r x xs H2 Q) : tBM K T r to tA σ H Q := q
theorem rd_bm0 {T : String} {r : V → List V → Hp → VK → Prop} (q : to σ H fun x H1 => tyV K T x H1 ∧ r x [] H1 Q) : tBM0 K T r to σ H Q := q
theorem rd_tyL {B : Prop} (h : H a = some (.lst xs)) (q : B) : tyV K "list" (.ref a) H ∧ B := ⟨.inl ⟨rfl, _, SqL.of h⟩, q⟩
theorem rd_append (h : H a = some (.lst xs)) (n : xs.length < 1000) (q : Q .non (upd H a (.lst (xs ++ [v])))) : rAppend (.ref a) [v] H Q := ⟨a, xs, v, rfl, rfl, h, small1000 (Nat.le_of_lt n), q⟩
theorem rd_cat {b : Addr} (h : H a = some (.lst xs)) (h2 : H b = some (.lst zs)) (n : xs.length + zs.length ≤ 1000) (q : ∀ p, H p = none → Q (.ref p) (upd H p (.lst (xs ++ zs)))) : rCat (.ref a) (.ref b) H Q :=
  ⟨a, b, xs, zs, rfl, rfl, h, h2, Nat.le_of_lt (small1000 n), q⟩
theorem rd_in (h : SqL K H a xs ∨ SqT K H a xs) (f : flatV v = true) (g : xs.all flatV = true) (q : Q (.bl (inV v xs)) H) : rIn K false v (.ref a) H Q := ⟨a, xs, rfl, h, f, g, q⟩
theorem rd_ifET {b : Bool} {A B : Prop} (h : b = true) (q : A) : if b = true then A else B := by rw [h]; exact iteT q
theorem rd_ifEF {b : Bool} {A B : Prop} (h : b = false) (q : B) : if b = true then A else B := by rw [h]; exact iteF q
end
end Fk

set_option Elab.async false
set_option linter.all false
set_option maxRecDepth 100000
set_option maxHeartbeats 4000000
namespace Fk
open PySem PySem.Spec PyProof.Rows L2
section
variable {σ : L2.St} {H : Hp} {Q : VK} {D : Ends} {te : TE} {tA : TA} {tl th : TO} {K : PySem.W.Frag} {a : Addr} {i j l n : Nat} {m : Int} {v : V} {xs r : List V} {g : TG} {gs : TGs} {tb : TS} {S : L2.St → Hp → Prop}
theorem rd_par3 (q : tA σ H fun vs H1 => ∃ u v w, vs = [u, v, w] ∧ D.nx (((σ.set i (some u)).set j (some v)).set l (some w)) H1) : tPar3 i j l tA D σ H := q
theorem rd_par3E {A : V → V → V → Prop} {x y z : V} (q : A x y z) : ∃ u v w, [x, y, z] = [u, v, w] ∧ A u v w := ⟨x, y, z, rfl, q⟩
theorem rd_rfl {B : Prop} (q : B) : v = v ∧ B := ⟨rfl, q⟩
theorem rd_sl {f : V → Option Int → Option Int → Hp → VK → Prop} (q : te σ H fun x H1 => tl σ H1 fun l H2 => th σ H2 fun u H3 => f x l u H3 Q) : tSl f te tl th σ H Q := q
theorem rd_nopart {A : Option Int → Hp → Prop} (q : A none H) : tNoPart σ H A := q
theorem rd_part {A : Option Int → Hp → Prop} (q : te σ H fun x H1 => ∃ i, x = .int i ∧ A (some i) H1) : tPart te σ H A := q
theorem rd_partE {A : Int → Prop} (q : A m) : ∃ i, V.int m = .int i ∧ A i := ⟨m, rfl, q⟩
theorem rd_slL {lo hi : Option Int} (h : SqL K H a xs) (q : ∀ p, H p = none → Q (.ref p) (upd H p (.lst (cutV xs lo hi)))) : rSlL K (.ref a) lo hi H Q := ⟨a, xs, rfl, h, q⟩
theorem rd_gtup (h : SqT K H a xs) (e : xs.length = n) (q : gs xs σ H S) : gTup K n gs (.ref a) σ H S := ⟨a, xs, rfl, h, e, q⟩
theorem rd_gcons (q : g v σ H fun σ' H' => gs r σ' H' S) : gCons g gs (v :: r) σ H S := ⟨v, r, rfl, q⟩
theorem rd_gnil (q : S σ H) : gNil [] σ H S := ⟨rfl, q⟩
theorem rd_forS {wi : TI} (q : wi σ H fun J H1 => ∃ W : Nat → Nat → L2.St → Hp → Prop, (∃ m, W 0 m σ H1) ∧ ∀ i m σ H, W i m σ H →
    (J.stop i H ∧ D.nx σ H) ∨ (J.go i H ∧ ∃ N : L2.St → Hp → Prop, (∀ σ' H', N σ' H' → ∃ m', m' < m ∧ W (i + 1) m' σ' H') ∧ ∀ x H', J.yld i H x H' → g x σ H' fun σ2 H2 => tb { D with nx := N, ct := N, bk := D.nx } σ2 H2)) :
    tFor wi g tb D σ H := q
theorem rd_zipS {R : It → Hp → Prop} (q : tA σ H fun vs H1 => ∃ a b xs ys, vs = [.ref a, .ref b] ∧ SqL K H1 a xs ∧ SqL K H1 b ys ∧ R (Itz K a b) H1) : iZip K tA σ H R := q
theorem rd_neRefl {x : Str} (q : Q (.bl false) H) : rNe (.str x) (.str x) H Q := by
  refine ⟨rfl, ?_⟩
  rw [decide_eq_true rfl]
  exact q
theorem rd_isi {t u : Value} {c : V} {b : Bool} (k : ClsV c u) (ty : TyX K H v t) (e : PySem.W.kitOne K t u = some b) (q : Q (.bl b) H) : rIsi K [v, c] H Q := ⟨v, c, t, u, b, rfl, k, ty, e, q⟩
end
/-! ### the head's facts: what the names reach, and the statics; a Bool of one's own over them -/
def frF (n : Nat) (g : Addr → Option Obj) : PySem.W.Frag := He.frT g (cStatics :: He.asD g n)
def obsF (n : Nat) (fa : List He.Fa) (fn : List He.DefD) (ex : PySem.W.Frag → Bool) (g : Addr → Option Obj) : He.AlD × Bool :=
  (He.obsD fa fn (frF n g), ex (frF n g))
def hookF (n : Nat) (fa : List He.Fa) (fn : List He.DefD) (ex : PySem.W.Frag → Bool) : PySem.W.Hook where
  α := He.AlD × Bool
  obs := fun s => obsF n fa fn ex s.heap.get?
  val := fun _ => (He.valD fn, true)
  says := fun _ h => ∃ K : PySem.W.Frag, K.In h ∧ He.SaysD fa fn K ∧ ex K = true
  of := fun _ _ e => ⟨_, He.frT_in, congrArg Prod.fst e, congrArg Prod.snd e⟩
  keeps := fun _ _ _ ⟨K, hK, c⟩ k => ⟨K, PySem.W.Frag.In.keeps hK k, c⟩
theorem obsF_eq {n : Nat} {fa : List He.Fa} {fn : List He.DefD} {ex : PySem.W.Frag → Bool} {g : Addr → Option Obj} {s : Shared}
    (h : ∀ a, g a = s.heap.get? a) : obsF n fa fn ex g = (hookF n fa fn ex).obs s := by
  obtain rfl : g = s.heap.get? := funext h
  rfl
end Fk

set_option Elab.async false
set_option linter.all false
set_option maxRecDepth 100000
set_option maxHeartbeats 4000000
namespace Lw
open PySem PySem.Spec PyProof.Rows L2 Fk
def top (i : Nat) : Stmt := PySem.Challenge.pw_foldkept_k00_errors_as_told.main.body.getD i (.Pass ⟨0, 0, 0, 0⟩)
abbrev sPen : Stmt := top 14
abbrev sDraw : Stmt := top 15
abbrev sPick : Stmt := top 16
/-- the built-in names that are free -/
structure Bi (mg : Str → Option Value) : Prop where
  ve : mg "ValueError" = none
  len : mg "len" = none
  int : mg "int" = none
  list : mg "list" = none
  range : mg "range" = none
  isinstance : mg "isinstance" = none
  repr : mg "repr" = none
  zip : mg "zip" = none
/-! ### the pen -/
def penK (c : Addr) (i d n f : Int) : List (Key × V) :=
  [(.inr "cells", .ref c), (.inr "at", .int i), (.inr "digits", .int d), (.inr "count", .int n), (.inr "fold", .int f)]
def isPen (o : HO) : Prop := ∃ c i d n f, o = .dK (penK c i d n f)
structure PenAt (H : Hp) (p : Addr) : Prop where
  ex : ∃ (ns : List Int) (c : Addr) (i d n f : Int), H p = some (.dK (penK c i d n f)) ∧ H c = some (.lst (ns.map V.int)) ∧ 0 ≤ i
theorem PenAt.keep {H H' : Hp} {p : Addr} (s : Same H H') (h : PenAt H p) : PenAt H' p :=
  let ⟨ns, c, i, d, n, f, h1, h2, h3⟩ := h.ex
  ⟨⟨ns, c, i, d, n, f, s _ _ h1, s _ _ h2, h3⟩⟩
/-- all but the pen stays -/
def But (p : Addr) (H H' : Hp) : Prop := ∀ b o, H b = some o → b ≠ p → H' b = some o
theorem But.refl {p : Addr} {H : Hp} : But p H H := fun _ _ e _ => e
theorem But.trans {p : Addr} {H H1 H2 : Hp} (a : But p H H1) (b : But p H1 H2) : But p H H2 := fun c o e n => b c o (a c o e n) n
/-- what is no pen stays -/
theorem But.at {p b : Addr} {H H' : Hp} {o : HO} (hp : PenAt H p) (k : But p H H') (h : H b = some o) (n : ∀ kvs, o = .dK kvs → kvs.length ≠ 5) : H' b = some o := by
  obtain ⟨ns, c, i, d, n', f, h1, _⟩ := hp
  refine k b o h fun z => ?_
  rw [z, h1] at h
  exact n _ (Option.some.inj h).symm rfl
theorem But.of {p : Addr} {H H' : Hp} (s : Same H H') : But p H H' := fun b o e _ => s b o e
theorem kn_cells_at : ¬ (Sum.inr ("cells" : Str) : Key) = Sum.inr ("at" : Str) := by decide +kernel
theorem kn_cells_digits : ¬ (Sum.inr ("cells" : Str) : Key) = Sum.inr ("digits" : Str) := by decide +kernel
theorem kn_cells_count : ¬ (Sum.inr ("cells" : Str) : Key) = Sum.inr ("count" : Str) := by decide +kernel
theorem kn_cells_fold : ¬ (Sum.inr ("cells" : Str) : Key) = Sum.inr ("fold" : Str) := by decide +kernel
theorem kn_at_cells : ¬ (Sum.inr ("at" : Str) : Key) = Sum.inr ("cells" : Str) := by decide +kernel
theorem kn_at_digits : ¬ (Sum.inr ("at" : Str) : Key) = Sum.inr ("digits" : Str) := by decide +kernel
theorem kn_at_count : ¬ (Sum.inr ("at" : Str) : Key) = Sum.inr ("count" : Str) := by decide +kernel
theorem kn_at_fold : ¬ (Sum.inr ("at" : Str) : Key) = Sum.inr ("fold" : Str) := by decide +kernel
theorem kn_digits_cells : ¬ (Sum.inr ("digits" : Str) : Key) = Sum.inr ("cells" : Str) := by decide +kernel
theorem kn_digits_at : ¬ (Sum.inr ("digits" : Str) : Key) = Sum.inr ("at" : Str) := by decide +kernel
theorem kn_digits_count : ¬ (Sum.inr ("digits" : Str) : Key) = Sum.inr ("count" : Str) := by decide +kernel
theorem kn_digits_fold : ¬ (Sum.inr ("digits" : Str) : Key) = Sum.inr ("fold" : Str) := by decide +kernel
theorem kn_count_cells : ¬ (Sum.inr ("count" : Str) : Key) = Sum.inr ("cells" : Str) := by decide +kernel
theorem kn_count_at : ¬ (Sum.inr ("count" : Str) : Key) = Sum.inr ("at" : Str) := by decide +kernel
theorem kn_count_digits : ¬ (Sum.inr ("count" : Str) : Key) = Sum.inr ("digits" : Str) := by decide +kernel
theorem kn_count_fold : ¬ (Sum.inr ("count" : Str) : Key) = Sum.inr ("fold" : Str) := by decide +kernel
theorem kn_fold_cells : ¬ (Sum.inr ("fold" : Str) : Key) = Sum.inr ("cells" : Str) := by decide +kernel
theorem kn_fold_at : ¬ (Sum.inr ("fold" : Str) : Key) = Sum.inr ("at" : Str) := by decide +kernel
theorem kn_fold_digits : ¬ (Sum.inr ("fold" : Str) : Key) = Sum.inr ("digits" : Str) := by decide +kernel
theorem kn_fold_count : ¬ (Sum.inr ("fold" : Str) : Key) = Sum.inr ("count" : Str) := by decide +kernel
theorem put_pos {k : Key} {v u : V} {r : List (Key × V)} (h : ∀ q ∈ r, ¬ q.1 = k) : putK ((k, v) :: r) k u = (k, u) :: r := by
  have e : r.map (fun kv => if kv.1 = k then (kv.1, u) else kv) = r := by
    conv => rhs; rw [← List.map_id r]
    exact List.map_congr_left fun q hq => if_neg (h q hq)
  simp [putK, e]
theorem put_neg {k k' : Key} {v u : V} {r : List (Key × V)} (n : ¬ k' = k) (h : ∃ q ∈ r, q.1 = k) : putK ((k', v) :: r) k u = (k', v) :: putK r k u := by
  obtain ⟨q, hq, e⟩ := h
  have a : (r.any fun kv => decide (kv.1 = k)) = true := List.any_eq_true.mpr ⟨q, hq, by simp [e]⟩
  unfold putK
  rw [List.any_cons, a, Bool.or_true, if_pos rfl, if_pos rfl, List.map_cons, if_neg n]
theorem val_cells (c : Addr) (i d n f : Int) : valV (penK c i d n f) (.inr ("cells" : Str) : Key) = some (.ref c) := valV_pos rfl
theorem val_at (c : Addr) (i d n f : Int) : valV (penK c i d n f) (.inr ("at" : Str) : Key) = some (.int i) := (valV_neg kn_cells_at).trans (valV_pos rfl)
theorem val_digits (c : Addr) (i d n f : Int) : valV (penK c i d n f) (.inr ("digits" : Str) : Key) = some (.int d) := (valV_neg kn_cells_digits).trans ((valV_neg kn_at_digits).trans (valV_pos rfl))
theorem val_count (c : Addr) (i d n f : Int) : valV (penK c i d n f) (.inr ("count" : Str) : Key) = some (.int n) := (valV_neg kn_cells_count).trans ((valV_neg kn_at_count).trans ((valV_neg kn_digits_count).trans (valV_pos rfl)))
theorem val_fold (c : Addr) (i d n f : Int) : valV (penK c i d n f) (.inr ("fold" : Str) : Key) = some (.int f) := (valV_neg kn_cells_fold).trans ((valV_neg kn_at_fold).trans ((valV_neg kn_digits_fold).trans ((valV_neg kn_count_fold).trans (valV_pos rfl))))
theorem put_at (c : Addr) (i d n f x : Int) : putK (penK c i d n f) (.inr ("at" : Str) : Key) (.int x) = penK c x d n f := by
  unfold penK
  rw [put_neg kn_cells_at (by simp)]
  rw [put_pos (by
    intro q hq
    simp only [List.mem_cons, List.not_mem_nil, or_false] at hq
    rcases hq with rfl | rfl | rfl
    · exact kn_digits_at
    · exact kn_count_at
    · exact kn_fold_at)]
theorem put_digits (c : Addr) (i d n f x : Int) : putK (penK c i d n f) (.inr ("digits" : Str) : Key) (.int x) = penK c i x n f := by
  unfold penK
  rw [put_neg kn_cells_digits (by simp)]
  rw [put_neg kn_at_digits (by simp)]
  rw [put_pos (by
    intro q hq
    simp only [List.mem_cons, List.not_mem_nil, or_false] at hq
    rcases hq with rfl | rfl
    · exact kn_count_digits
    · exact kn_fold_digits)]
theorem put_count (c : Addr) (i d n f x : Int) : putK (penK c i d n f) (.inr ("count" : Str) : Key) (.int x) = penK c i d x f := by
  unfold penK
  rw [put_neg kn_cells_count (by simp)]
  rw [put_neg kn_at_count (by simp)]
  rw [put_neg kn_digits_count (by simp)]
  rw [put_pos (by
    intro q hq
    simp only [List.mem_cons, List.not_mem_nil, or_false] at hq
    rcases hq with rfl
    · exact kn_fold_count)]
theorem put_fold (c : Addr) (i d n f x : Int) : putK (penK c i d n f) (.inr ("fold" : Str) : Key) (.int x) = penK c i d n x := by
  unfold penK
  rw [put_neg kn_cells_fold (by simp)]
  rw [put_neg kn_at_fold (by simp)]
  rw [put_neg kn_digits_fold (by simp)]
  rw [put_neg kn_count_fold (by simp)]
  rw [put_pos (by simp)]
section
variable {H : Hp} {p c : Addr} {i d n f x : Int}
theorem g_cells (h : H p = some (.dK (penK c i d n f))) : DGet H p (.str "cells") (some (.ref c)) := by
  rw [← val_cells c i d n f]; exact DGet.k (k := Sum.inr "cells") h
theorem g_at (h : H p = some (.dK (penK c i d n f))) : DGet H p (.str "at") (some (.int i)) := by
  rw [← val_at c i d n f]; exact DGet.k (k := Sum.inr "at") h
theorem g_digits (h : H p = some (.dK (penK c i d n f))) : DGet H p (.str "digits") (some (.int d)) := by
  rw [← val_digits c i d n f]; exact DGet.k (k := Sum.inr "digits") h
theorem g_count (h : H p = some (.dK (penK c i d n f))) : DGet H p (.str "count") (some (.int n)) := by
  rw [← val_count c i d n f]; exact DGet.k (k := Sum.inr "count") h
theorem g_fold (h : H p = some (.dK (penK c i d n f))) : DGet H p (.str "fold") (some (.int f)) := by
  rw [← val_fold c i d n f]; exact DGet.k (k := Sum.inr "fold") h
theorem p_at (h : H p = some (.dK (penK c i d n f))) : DPut H p (.str "at") (.int x) (upd H p (.dK (penK c x d n f))) := by
  rw [← put_at c i d n f]; exact DPut.k (k := Sum.inr "at") h (by rw [sizeLine_eq]; show 5 < 16777216; decide)
theorem p_digits (h : H p = some (.dK (penK c i d n f))) : DPut H p (.str "digits") (.int x) (upd H p (.dK (penK c i x n f))) := by
  rw [← put_digits c i d n f]; exact DPut.k (k := Sum.inr "digits") h (by rw [sizeLine_eq]; show 5 < 16777216; decide)
theorem p_count (h : H p = some (.dK (penK c i d n f))) : DPut H p (.str "count") (.int x) (upd H p (.dK (penK c i d x f))) := by
  rw [← put_count c i d n f]; exact DPut.k (k := Sum.inr "count") h (by rw [sizeLine_eq]; show 5 < 16777216; decide)
theorem p_fold (h : H p = some (.dK (penK c i d n f))) : DPut H p (.str "fold") (.int x) (upd H p (.dK (penK c i d n x))) := by
  rw [← put_fold c i d n f]; exact DPut.k (k := Sum.inr "fold") h (by rw [sizeLine_eq]; show 5 < 16777216; decide)
end

local macro_rules | `(tactic| walk_at "rd at") => `(tactic| first | assumption | exact upd_same | exact (upd_ne (by assumption)).trans (by walk_at "rd at"))
local macro_rules | `(tactic| walk_at "rd dget") => `(tactic| first | exact g_cells (by walk_at "rd at") | exact g_at (by walk_at "rd at") | exact g_digits (by walk_at "rd at") | exact g_count (by walk_at "rd at") | exact g_fold (by walk_at "rd at"))
local macro_rules | `(tactic| walk_at "rd dput") => `(tactic| first | exact p_at (by walk_at "rd at") | exact p_digits (by walk_at "rd at") | exact p_count (by walk_at "rd at") | exact p_fold (by walk_at "rd at"))
local macro_rules | `(tactic| walk_at "rd seq") => `(tactic| first | exact .inl (SqL.of (by walk_at "rd at")) | exact .inr (SqT.of (by walk_at "rd at")) | exact .inl (by assumption) | exact .inr (by assumption))
local macro_rules | `(tactic| walk_at "rd cond") => `(tactic| first | decide | assumption | (show (0 : Int) < _; omega) | (refine And.intro ?_ ?_ <;> omega) | (refine Or.inr ?_; refine And.intro ?_ ?_ <;> decide) | (refine Or.inl ?_; refine And.intro ?_ ?_ <;> omega) | (refine Or.inr ?_; refine And.intro ?_ ?_ <;> omega))
local macro_rules | `(tactic| walk_at "rd") => `(tactic| (repeat (first
  | ((with_reducible apply rd_var); (exact rfl))
  | with_reducible refine rd_seq ?_ | with_reducible refine rd_asg ?_ | with_reducible refine rd_ret ?_ | with_reducible refine rd_retN ?_
  | with_reducible refine rd_drop ?_ | with_reducible refine rd_next ?_ | with_reducible refine rd_ifs ?_
  | with_reducible refine rd_test ?_ | with_reducible refine rd_tB ?_ | with_reducible refine rd_bl ?_ | with_reducible refine rd_and ?_
  | with_reducible refine rd_or ?_ | with_reducible refine rd_not ?_ | with_reducible refine rd_andV ?_ | with_reducible refine rd_orV ?_ | with_reducible refine rd_notV ?_
  | with_reducible refine rd_c ?_ | with_reducible refine rd_op ?_ | with_reducible refine rd_un ?_ | with_reducible refine rd_rI0 ?_ | with_reducible refine rd_rU ?_
  | with_reducible refine rd_cb ?_ | with_reducible refine rd_cons ?_ | with_reducible refine rd_nil ?_
  | with_reducible refine rd_gname ?_ | with_reducible refine rd_eqI ?_ | with_reducible refine rd_neI ?_ | with_reducible refine rd_int1 ?_
  | with_reducible refine rd_dgetS ?_ | with_reducible refine rd_dput ?_ | with_reducible refine rd_call ?_ | with_reducible refine rd_lst ?_ | with_reducible refine rd_tup ?_
  | with_reducible refine rd_pcons ?_ | with_reducible refine rd_pnil ?_
  | with_reducible refine rd_ifT ?_ | with_reducible refine rd_ifF ?_
  | ((with_reducible apply rd_dget); (walk_at "rd dget"))
  | ((with_reducible apply rd_len); (walk_at "rd seq"))
  | ((with_reducible apply rd_dputE); (walk_at "rd dput"))
  | ((with_reducible apply rd_rI); (walk_at "rd cond")))))
/-! ### _law_pen, _law_draw, _law_pick -/
def spPen (K : PySem.W.Frag) : Sp := fun vs H Q _ => ∃ (a : Addr) (ns : List Int), vs = [.ref a] ∧ SqL K H a (ns.map V.int) ∧
  ∀ (p : Addr) (H' : Hp), H p = none → PenAt H' p → But p H H' → Q (.ref p) H'
def spDraw : Sp := fun vs H Q _ => ∃ (p : Addr) (m : Int), vs = [.ref p, .int m] ∧ PenAt H p ∧ 0 < m ∧ m < 1073741824 ∧
  ∀ (r : Int) (H' : Hp), 0 ≤ r → r < m → PenAt H' p → But p H H' → Q (.int r) H'
theorem scDraw : FnScope ["pen", "many", "cell", "digit", "blend"] ["pen", "many"] (defScope sDraw) := ⟨rfl, rfl, rfl, by decide +kernel, rfl, by decide +kernel, by decide +kernel⟩
theorem scPen : FnScope ["script", "fold", "cell"] ["script"] (defScope sPen) := ⟨rfl, rfl, rfl, by decide +kernel, rfl, by decide +kernel, by decide +kernel⟩
section
variable {P : Program} {w : World} {K : PySem.W.Frag} {mg : Str → Option Value} {base : Heap}
theorem but_upd {p : Addr} {H : Hp} {o : HO} : But p H (upd H p o) := fun b u e n => by rw [upd_ne n]; exact e
theorem ok_draw {f : Addr} {fd : FuncData} (F : Fun K "_law_draw" "_law_draw" sDraw f fd) (T : Bi mg) :
    FnOk P w K mg base CX0 1 f fd ["pen", "many"] spDraw := by
  refine F.ok scDraw (fun vs H Q E h => ?_) (fun cdv A outer s H vs Q E hr h => ?_)
  · obtain ⟨p, m, rfl, _⟩ := h; rfl
  · obtain ⟨p, m, rfl, ⟨ns, c, i, d, n, f, hp, hc, hi⟩, m0, m1, k⟩ := h
    have hu := hu_of hr
    have pc : ∀ {o : HO} {H : Hp} {c : Addr} {xs : List V}, H p = some o → H c = some (.lst xs) → (∀ xs, o ≠ .lst xs) → c ≠ p :=
      fun h1 h2 h3 e => by rw [e, h1] at h2; exact h3 _ (Option.some.inj h2)
    refine ⟨_, (pss_cons (ps_dput hu (pv 0) pe_str (pe_op op_add (pe_dget hu (pv 0) pe_str (fun _ _ => rfl)) pe_int) rfl)
      (C8.pss_cut (ps_if (PW.pt (pw_and (pt_cmpR op_eq (pe_dget hu (pv 0) pe_str (fun _ _ => rfl)) pe_int (nomark _)) (pw_and1 (pt_cmpR op_lt (pe_dget hu (pv 0) pe_str (fun _ _ => rfl)) (pe_callB call_len_seq (by rfl) T.len PySem.boot_len (pa_cons (pe_dget hu (pv 0) pe_str (fun _ _ => rfl)) pa_nil)) (nomark _))))) (pss_cons (ps_set (i := 2) scDraw.nd rfl (Or.inl rfl) (pe_ix ix_list (pe_dget hu (pv 0) pe_str (fun _ _ => rfl)) (pe_dget hu (pv 0) pe_str (fun _ _ => rfl)) (fun _ _ => rfl)))
      (pss_cons (ps_dput hu (pv 0) pe_str (pe_op op_add (pe_dget hu (pv 0) pe_str (fun _ _ => rfl)) pe_int) rfl)
      (pss_one (ps_if (pt_cmpR op_ge (pv 2) (pe_op op_pow pe_int pe_int) (nomark _)) (pss_one (ps_dput hu (pv 0) pe_str (pe_op op_sub (pv 2) (pe_op op_pow pe_int pe_int)) rfl)) (pss_one (ps_dput hu (pv 0) pe_str (pe_op op_mod (pe_callTy call_int1 (by rfl) T.int (by decide +kernel) (pa_cons (pe_op op_add (pe_op op_mul (pe_dget hu (pv 0) pe_str (fun _ _ => rfl)) pe_int) (pv 2)) pa_nil)) pe_int) rfl)))))) pss_nil)
      (pss_cons (ps_if (pt_cmpR op_gt (pe_dget hu (pv 0) pe_str (fun _ _ => rfl)) pe_int (nomark _)) (pss_cons (ps_set (i := 3) scDraw.nd rfl (Or.inl rfl) (pe_op op_mod (pe_callTy call_int1 (by rfl) T.int (by decide +kernel) (pa_cons (pe_dget hu (pv 0) pe_str (fun _ _ => rfl)) pa_nil)) (pv 1)))
      (pss_cons (ps_dput hu (pv 0) pe_str (pe_op op_fdiv (pe_dget hu (pv 0) pe_str (fun _ _ => rfl)) (pv 1)) rfl)
      (pss_one (ps_ret (pv 3))))) pss_nil)
      (pss_cons (ps_set (i := 4) scDraw.nd rfl (Or.inl rfl) (pe_op op_mod (pe_callTy call_int1 (by rfl) T.int (by decide +kernel) (pa_cons (pe_op op_add (pe_op op_add (pe_op op_mul (pe_dget hu (pv 0) pe_str (fun _ _ => rfl)) pe_int) (pe_op op_mul (pe_dget hu (pv 0) pe_str (fun _ _ => rfl)) pe_int)) pe_int) pa_nil)) pe_int))
      (pss_cons (ps_set (i := 4) scDraw.nd rfl (Or.inl rfl) (pe_op op_mod (pe_callTy call_int1 (by rfl) T.int (by decide +kernel) (pa_cons (pe_op op_add (pe_op op_add (pe_op op_mul (pv 4) (pv 4)) (pe_op op_mul pe_int (pv 4))) (pe_dget hu (pv 0) pe_str (fun _ _ => rfl))) pa_nil)) pe_int))
      (pss_cons (ps_dput hu (pv 0) pe_str (pe_op op_mod (pe_callTy call_int1 (by rfl) T.int (by decide +kernel) (pa_cons (pe_op op_add (pe_op op_mul (pv 4) pe_int) pe_int) pa_nil)) pe_int) rfl)
      (pss_one (ps_ret (pe_op op_mod (pe_callTy call_int1 (by rfl) T.int (by decide +kernel) (pa_cons (pe_op op_fdiv (pv 4) pe_int) pa_nil)) (pv 1)))))))))), ?_⟩
    have n1 : c ≠ p := pc hp hc (fun _ z => nomatch z)
    walk_at "rd"
    -- the first test, then the rest, the pen between them
    refine ⟨fun σ' H' => ∃ (x y : Option V) (ns : List Int) (c : Addr) (i d n f : Int), σ' = [some (.ref p), some (.int m), x, y, none] ∧
      H' p = some (.dK (penK c i d n f)) ∧ H' c = some (.lst (ns.map V.int)) ∧ 0 ≤ i ∧ But p H H', ?_, ?_⟩
    · walk_at "rd"
      refine @rd_if _ _ _ _ (fun hd => ?_) (fun hd => ?_)
      · walk_at "rd"
        refine @rd_if _ _ _ _ (fun hl => ?_) (fun hl => ?_)
        · walk_at "rd"
          have hil : i.toNat < (ns.map V.int).length := by omega
          have hz : atI (ns.map V.int) i = some (V.int (ns.getD i.toNat 0)) := by
            have e := atI_nat (xs := ns.map V.int) (j := i.toNat) (v := V.int (ns.getD i.toNat 0)) (by
              rw [List.length_map] at hil
              rw [List.getElem?_map, List.getElem?_eq_getElem hil, List.getD_eq_getElem?_getD, List.getElem?_eq_getElem hil]; rfl)
            rw [Int.toNat_of_nonneg hi] at e
            exact e
          refine rd_ixL (SqL.of (by walk_at "rd at")) hz ?_
          generalize ns.getD i.toNat 0 = z
          walk_at "rd"
          refine @rd_if _ _ _ _ (fun hg => ?_) (fun hg => ?_)
          all_goals
            walk_at "rd"
            rw [upd_upd, upd_upd]
          · exact ⟨_, none, ns, c, i + 1, _, n + 1, f, rfl, upd_same, (by walk_at "rd at"), by omega, but_upd⟩
          · exact ⟨_, none, ns, c, i + 1, d, n + 1, _, rfl, upd_same, (by walk_at "rd at"), by omega, but_upd⟩
        · walk_at "rd"
          exact ⟨none, none, ns, c, i, d, n + 1, f, rfl, upd_same, (by walk_at "rd at"), hi, but_upd⟩
      · walk_at "rd"
        exact ⟨none, none, ns, c, i, d, n + 1, f, rfl, upd_same, (by walk_at "rd at"), hi, but_upd⟩
    · rintro σ' H' ⟨x, y, ns, c, i, d, n, f, rfl, hp, hc, hi, hb⟩
      have n1 : c ≠ p := pc hp hc (fun _ z => nomatch z)
      walk_at "rd"
      refine @rd_if _ _ _ _ (fun hd => ?_) (fun hd => ?_)
      · walk_at "rd"
        refine k _ _ (Int.emod_nonneg _ (by omega)) (Int.emod_lt_of_pos _ m0) ⟨ns, c, i, _, n, f, upd_same, (by walk_at "rd at"), hi⟩ (hb.trans but_upd)
      · walk_at "rd"
        refine k _ _ (Int.emod_nonneg _ (by omega)) (Int.emod_lt_of_pos _ m0) ⟨ns, c, i, d, n, _, upd_same, (by walk_at "rd at"), hi⟩ (hb.trans but_upd)

theorem ok_pen {f : Addr} {fd : FuncData} (F : Fun K "_law_pen" "_law_pen" sPen f fd) (T : Bi mg) :
    FnOk P w K mg base CX0 1 f fd ["script"] (spPen K) := by
  refine F.ok scPen (fun vs H Q E h => ?_) (fun cdv A outer s H vs Q E hr h => ?_)
  · obtain ⟨a, ns, rfl, _⟩ := h; rfl
  · obtain ⟨a, ns, rfl, hS, k⟩ := h
    have hu := hu_of hr
    refine ⟨_, (pss_cons (ps_set (i := 1) scPen.nd rfl (Or.inl rfl) pe_int)
      (pss_cons (ps_for PassesOwn.never rfl (pi_list (pv 0)) (pg_name (i := 2) scPen.nd rfl (Or.inl rfl)) (pss_one (ps_set (i := 1) scPen.nd rfl (Or.inl rfl) (pe_op op_mod (pe_callTy call_int1 (by rfl) T.int (by decide +kernel) (pa_cons (pe_op op_add (pe_op op_mul (pv 1) pe_int) (pv 2)) pa_nil)) pe_int))))
      (pss_one (ps_ret (pe_disp (pps_cons pe_str (pe_callTy call_list_of (by rfl) T.list (by decide +kernel) (pa_cons (pv 0) pa_nil)) (pps_cons pe_str pe_int (pps_cons pe_str pe_int (pps_cons pe_str pe_int (pps_cons pe_str (pv 1) pps_nil))))) (by rfl) (by rfl) (fun z => by cases z) (by decide)))))), ?_⟩
    walk_at "rd"
    refine rd_forL ?_ (fun _ _ => mono_var)
    walk_at "rd"
    refine ⟨a, _, rfl, hS, fun i σ H' => ∃ (f : Int) (y : Option V), σ = [some (.ref a), some (.int f), y] ∧ H' = H, ⟨0, none, rfl, rfl⟩, ?_, ?_, ?_⟩
    · rintro i σ H' _ ⟨f, y, rfl, rfl⟩; exact hS
    · rintro i y σ H' hi ⟨f, y', rfl, rfl⟩
      obtain ⟨z, rfl⟩ : ∃ z, y = V.int z := by
        rw [List.getElem?_map] at hi
        obtain ⟨z, _, e⟩ := Option.map_eq_some_iff.mp hi
        exact ⟨z, e.symm⟩
      walk_at "rd"
      exact ⟨_, _, rfl, rfl⟩
    · rintro σ H' ⟨f, y, rfl, rfl⟩
      walk_at "rd"
      refine rd_disp fun p hp => ?_
      walk_at "rd"
      refine rd_list (ys := ns.map V.int) (.inl ((same_new hp).seq hS)) fun l hl => ?_
      walk_at "rd"
      have n1 : p ≠ l := ne_of_none upd_same hl
      refine ⟨by walk_at "rd at", penK l 0 0 0 f, rfl, by show 5 ≤ 15; decide, ?_⟩
      rw [merge_nil (by show ([Sum.inr ("cells" : Str), Sum.inr ("at" : Str), Sum.inr ("digits" : Str), Sum.inr ("count" : Str), Sum.inr ("fold" : Str)] : List Key).Nodup; decide +kernel)]
      walk_at "rd"
      have hlH := (same_new hp).free hl
      refine k p _ hp ⟨ns, l, 0, 0, 0, f, upd_same, (by rw [upd_ne n1.symm]; exact upd_same), by decide⟩ fun b o e nb => ?_
      rw [upd_ne nb, upd_ne (ne_of_none e hlH), upd_ne nb]
      exact e
/-- where a def stands, and how it binds -/
abbrev At (K : PySem.W.Frag) (mg : Str → Option Value) (x : Str) (f : Addr) (fd : FuncData) (ps : List Str) : Prop :=
  mg x = some (.ref f) ∧ PySem.W.keepIn K (.ref f) = true ∧ Binds K fd ps []
theorem But.seq {p a : Addr} {H H' : Hp} {xs : List V} (hp : PenAt H p) (b : But p H H') (h : SqL K H a xs) : SqL K H' a xs := by
  obtain ⟨ns, c, i, d, n, f, h1, _⟩ := hp
  have ne : ∀ {o}, H a = some o → (∀ k, o ≠ .dK k) → a ≠ p := fun e z y => by rw [y, h1] at e; exact z _ (Option.some.inj e).symm
  rcases h with (h | ⟨o, h⟩) | h
  · exact .inl (.inl (b _ _ h (ne h fun _ z => nomatch z)))
  · exact .inl (.inr ⟨o, b _ _ h (ne h fun _ z => nomatch z)⟩)
  · exact .inr h
def spPick (K : PySem.W.Frag) : Sp := fun vs H Q _ => ∃ (p a : Addr) (xs : List V), vs = [.ref p, .ref a] ∧ PenAt H p ∧ SqL K H a xs ∧ 0 < xs.length ∧ xs.length < 1073741824 ∧
  ∀ (j : Nat) (x : V) (H' : Hp), xs[j]? = some x → PenAt H' p → But p H H' → Q x H'
theorem scPick : FnScope ["pen", "some"] ["pen", "some"] (defScope sPick) := ⟨rfl, rfl, rfl, by decide +kernel, rfl, by decide +kernel, by decide +kernel⟩
theorem ok_pick {f f1 : Addr} {fd fd1 : FuncData} (F : Fun K "_law_pick" "_law_pick" sPick f fd) (T : Bi mg)
    (G1 : FnOk P w K mg base CX0 1 f1 fd1 ["pen", "many"] spDraw) (N1 : At K mg "_law_draw" f1 fd1 ["pen", "many"]) :
    FnOk P w K mg base CX0 2 f fd ["pen", "some"] (spPick K) := by
  refine F.ok scPick (fun vs H Q E h => ?_) (fun cdv A outer s H vs Q E hr h => ?_)
  · obtain ⟨p, a, xs, rfl, _⟩ := h; rfl
  · obtain ⟨p, a, xs, rfl, hp, hS, h0, h1, k⟩ := h
    have hr1 : Room 1 _ := hr.mono (by decide)
    refine ⟨_, (pss_one (ps_ret (pe_ix ix_list (pv 1) (pe_call G1 hr1 rfl N1.1 N1.2.1 N1.2.2 .nil pass0 (pa_cons (pv 0) (pa_cons (pe_callB call_len_seq (by rfl) T.len PySem.boot_len (pa_cons (pv 1) pa_nil)) pa_nil))) (fun _ _ => rfl)))), ?_⟩
    walk_at "rd"
    refine ⟨p, xs.length, rfl, hp, by omega, by omega, fun r H' r0 r1 hp' hb => ?_⟩
    walk_at "rd"
    obtain ⟨x, hx⟩ : ∃ x, xs[r.toNat]? = some x := ⟨_, List.getElem?_eq_getElem (show r.toNat < xs.length by omega)⟩
    have hx' := atI_nat hx
    rw [Int.toNat_of_nonneg r0] at hx'
    exact rd_ixL (hb.seq hp hS) hx' (k _ _ _ hx hp' hb)
end
end Lw

set_option Elab.async false
set_option linter.all false
set_option maxRecDepth 100000
set_option maxHeartbeats 4000000
namespace Lw
open PySem PySem.Spec PyProof.Rows L2 Fk
local macro_rules | `(tactic| walk_at "rd at") => `(tactic| first | assumption | exact upd_same | exact (upd_ne (by assumption)).trans (by walk_at "rd at"))
local macro_rules | `(tactic| walk_at "rd dget") => `(tactic| first | exact g_cells (by walk_at "rd at") | exact g_at (by walk_at "rd at") | exact g_digits (by walk_at "rd at") | exact g_count (by walk_at "rd at") | exact g_fold (by walk_at "rd at"))
local macro_rules | `(tactic| walk_at "rd dput") => `(tactic| first | exact p_at (by walk_at "rd at") | exact p_digits (by walk_at "rd at") | exact p_count (by walk_at "rd at") | exact p_fold (by walk_at "rd at"))
local macro_rules | `(tactic| walk_at "rd seq") => `(tactic| first | exact .inl (SqL.of (by walk_at "rd at")) | exact .inr (SqT.of (by walk_at "rd at")) | exact .inl (by assumption) | exact .inr (by assumption))
local macro_rules | `(tactic| walk_at "rd cond") => `(tactic| first | decide | assumption | (show (0 : Int) < _; omega) | (refine And.intro ?_ ?_ <;> omega) | (refine Or.inr ?_; refine And.intro ?_ ?_ <;> decide) | (refine Or.inl ?_; refine And.intro ?_ ?_ <;> omega) | (refine Or.inr ?_; refine And.intro ?_ ?_ <;> omega))
local macro_rules | `(tactic| walk_at "rd") => `(tactic| (repeat (first
  | ((with_reducible apply rd_var); (exact rfl))
  | with_reducible refine rd_seq ?_ | with_reducible refine rd_asg ?_ | with_reducible refine rd_ret ?_ | with_reducible refine rd_retN ?_
  | with_reducible refine rd_drop ?_ | with_reducible refine rd_next ?_ | with_reducible refine rd_ifs ?_
  | with_reducible refine rd_test ?_ | with_reducible refine rd_tB ?_ | with_reducible refine rd_bl ?_ | with_reducible refine rd_and ?_
  | with_reducible refine rd_or ?_ | with_reducible refine rd_not ?_ | with_reducible refine rd_andV ?_ | with_reducible refine rd_orV ?_ | with_reducible refine rd_notV ?_
  | with_reducible refine rd_c ?_ | with_reducible refine rd_op ?_ | with_reducible refine rd_un ?_ | with_reducible refine rd_rI0 ?_ | with_reducible refine rd_rU ?_
  | with_reducible refine rd_cb ?_ | with_reducible refine rd_cons ?_ | with_reducible refine rd_nil ?_
  | with_reducible refine rd_gname ?_ | with_reducible refine rd_eqI ?_ | with_reducible refine rd_neI ?_ | with_reducible refine rd_int1 ?_
  | with_reducible refine rd_dgetS ?_ | with_reducible refine rd_dput ?_ | with_reducible refine rd_call ?_ | with_reducible refine rd_lst ?_ | with_reducible refine rd_tup ?_
  | with_reducible refine rd_vei ?_ | with_reducible refine rd_ost ?_
  | with_reducible refine rd_pcons ?_ | with_reducible refine rd_pnil ?_
  | with_reducible refine rd_ifT ?_ | with_reducible refine rd_ifF ?_
  | ((with_reducible apply rd_dget); (walk_at "rd dget"))
  | ((with_reducible apply rd_len); (walk_at "rd seq"))
  | ((with_reducible apply rd_dputE); (walk_at "rd dput"))
  | ((with_reducible apply rd_rI); (walk_at "rd cond")))))

def ys : List Str := ["BadText", "BadName", "BadNumber", "BadRow", "NoName", "TakenName", "Unlike", "TooMany", "NotKept", "NothingToUndo", "NothingToRedo"]
section
variable {P : Program} {w : World} {K : PySem.W.Frag} {mg : Str → Option Value} {base : Heap}
theorem sc_BadText : FnScope ["self", "line", "word"] ["self", "line", "word"] (defScope (inClass (top 2) 0)) := ⟨rfl, rfl, rfl, by decide +kernel, rfl, by decide +kernel, by decide +kernel⟩
theorem ok_BadText {f : Addr} {fd : FuncData} (F : Fun K "__init__" "BadText.__init__" (inClass (top 2) 0) f fd) (B : BaseI K (He.ga K "FoldError")) (gB : mg "FoldError" = some (.ref (He.ga K "FoldError")))
    (R : ErC K ys "BadText" ["line", "word"]) : FnOk P w K mg base CX0 1 f fd ["self", "line", "word"] (spErr (He.ga K "BadText") ["line", "word"]) := by
  refine F.ok sc_BadText (fun vs H Q E h => ?_) (fun cdv A outer s H vs Q E hr h => ?_)
  · obtain ⟨a, us, rfl, hl, _⟩ := h; simpa using hl
  · obtain ⟨a, us, rfl, hl, ha, k⟩ := h
    obtain ⟨y0, y1, rfl⟩ : ∃ y0 y1, us = [y0, y1] := match us, hl with | [y0, y1], _ => ⟨y0,  y1, rfl⟩
    refine ⟨_, (pss_cons (ps_expr (pe_binit B rfl gB (pa_cons (pv 0) (pa_cons pe_str pa_nil))))
      (pss_cons (ps_ost (pv 0) (pv 1) rfl)
      (pss_one (ps_ost (pv 0) (pv 2) rfl)))), ?_⟩
    walk_at "rd"
    refine ⟨a, _, _, rfl, by show 1 ≤ 1000; decide, R.oex, ha, ?_⟩
    walk_at "rd"
    refine rd_ost1 R.oex (R.no _ (by simp)) ha fun d hd ne => ?_
    walk_at "rd"
    refine rd_ost2 R.oex (R.no _ (by simp)) (dx := d) upd_same (by rw [upd_ne ne]; exact upd_same) (by show 1 ≤ 900; decide) ?_
    walk_at "rd"
    exact k d _ hd ne (by simp only [upd_ne ne.symm, upd_same]) upd_same fun b h1 h2 => by simp only [upd_ne h1, upd_ne h2]
theorem sc_BadName : FnScope ["self", "name"] ["self", "name"] (defScope (inClass (top 3) 0)) := ⟨rfl, rfl, rfl, by decide +kernel, rfl, by decide +kernel, by decide +kernel⟩
theorem ok_BadName {f : Addr} {fd : FuncData} (F : Fun K "__init__" "BadName.__init__" (inClass (top 3) 0) f fd) (B : BaseI K (He.ga K "FoldError")) (gB : mg "FoldError" = some (.ref (He.ga K "FoldError")))
    (R : ErC K ys "BadName" ["name"]) : FnOk P w K mg base CX0 1 f fd ["self", "name"] (spErr (He.ga K "BadName") ["name"]) := by
  refine F.ok sc_BadName (fun vs H Q E h => ?_) (fun cdv A outer s H vs Q E hr h => ?_)
  · obtain ⟨a, us, rfl, hl, _⟩ := h; simpa using hl
  · obtain ⟨a, us, rfl, hl, ha, k⟩ := h
    obtain ⟨y0, rfl⟩ : ∃ y0, us = [y0] := match us, hl with | [y0], _ => ⟨y0, rfl⟩
    refine ⟨_, (pss_cons (ps_expr (pe_binit B rfl gB (pa_cons (pv 0) (pa_cons pe_str pa_nil))))
      (pss_one (ps_ost (pv 0) (pv 1) rfl))), ?_⟩
    walk_at "rd"
    refine ⟨a, _, _, rfl, by show 1 ≤ 1000; decide, R.oex, ha, ?_⟩
    walk_at "rd"
    refine rd_ost1 R.oex (R.no _ (by simp)) ha fun d hd ne => ?_
    walk_at "rd"
    exact k d _ hd ne upd_same (by rw [upd_ne ne]; exact upd_same) fun b h1 h2 => by simp only [upd_ne h1, upd_ne h2]
theorem sc_BadNumber : FnScope ["self", "what", "number"] ["self", "what", "number"] (defScope (inClass (top 4) 0)) := ⟨rfl, rfl, rfl, by decide +kernel, rfl, by decide +kernel, by decide +kernel⟩
theorem ok_BadNumber {f : Addr} {fd : FuncData} (F : Fun K "__init__" "BadNumber.__init__" (inClass (top 4) 0) f fd) (B : BaseI K (He.ga K "FoldError")) (gB : mg "FoldError" = some (.ref (He.ga K "FoldError")))
    (R : ErC K ys "BadNumber" ["what", "number"]) : FnOk P w K mg base CX0 1 f fd ["self", "what", "number"] (spErr (He.ga K "BadNumber") ["what", "number"]) := by
  refine F.ok sc_BadNumber (fun vs H Q E h => ?_) (fun cdv A outer s H vs Q E hr h => ?_)
  · obtain ⟨a, us, rfl, hl, _⟩ := h; simpa using hl
  · obtain ⟨a, us, rfl, hl, ha, k⟩ := h
    obtain ⟨y0, y1, rfl⟩ : ∃ y0 y1, us = [y0, y1] := match us, hl with | [y0, y1], _ => ⟨y0,  y1, rfl⟩
    refine ⟨_, (pss_cons (ps_expr (pe_binit B rfl gB (pa_cons (pv 0) (pa_cons pe_str pa_nil))))
      (pss_cons (ps_ost (pv 0) (pv 1) rfl)
      (pss_one (ps_ost (pv 0) (pv 2) rfl)))), ?_⟩
    walk_at "rd"
    refine ⟨a, _, _, rfl, by show 1 ≤ 1000; decide, R.oex, ha, ?_⟩
    walk_at "rd"
    refine rd_ost1 R.oex (R.no _ (by simp)) ha fun d hd ne => ?_
    walk_at "rd"
    refine rd_ost2 R.oex (R.no _ (by simp)) (dx := d) upd_same (by rw [upd_ne ne]; exact upd_same) (by show 1 ≤ 900; decide) ?_
    walk_at "rd"
    exact k d _ hd ne (by simp only [upd_ne ne.symm, upd_same]) upd_same fun b h1 h2 => by simp only [upd_ne h1, upd_ne h2]
theorem sc_BadRow : FnScope ["self", "what", "row"] ["self", "what", "row"] (defScope (inClass (top 5) 0)) := ⟨rfl, rfl, rfl, by decide +kernel, rfl, by decide +kernel, by decide +kernel⟩
theorem ok_BadRow {f : Addr} {fd : FuncData} (F : Fun K "__init__" "BadRow.__init__" (inClass (top 5) 0) f fd) (B : BaseI K (He.ga K "FoldError")) (gB : mg "FoldError" = some (.ref (He.ga K "FoldError")))
    (R : ErC K ys "BadRow" ["what", "row"]) : FnOk P w K mg base CX0 1 f fd ["self", "what", "row"] (spErr (He.ga K "BadRow") ["what", "row"]) := by
  refine F.ok sc_BadRow (fun vs H Q E h => ?_) (fun cdv A outer s H vs Q E hr h => ?_)
  · obtain ⟨a, us, rfl, hl, _⟩ := h; simpa using hl
  · obtain ⟨a, us, rfl, hl, ha, k⟩ := h
    obtain ⟨y0, y1, rfl⟩ : ∃ y0 y1, us = [y0, y1] := match us, hl with | [y0, y1], _ => ⟨y0,  y1, rfl⟩
    refine ⟨_, (pss_cons (ps_expr (pe_binit B rfl gB (pa_cons (pv 0) (pa_cons pe_str pa_nil))))
      (pss_cons (ps_ost (pv 0) (pv 1) rfl)
      (pss_one (ps_ost (pv 0) (pv 2) rfl)))), ?_⟩
    walk_at "rd"
    refine ⟨a, _, _, rfl, by show 1 ≤ 1000; decide, R.oex, ha, ?_⟩
    walk_at "rd"
    refine rd_ost1 R.oex (R.no _ (by simp)) ha fun d hd ne => ?_
    walk_at "rd"
    refine rd_ost2 R.oex (R.no _ (by simp)) (dx := d) upd_same (by rw [upd_ne ne]; exact upd_same) (by show 1 ≤ 900; decide) ?_
    walk_at "rd"
    exact k d _ hd ne (by simp only [upd_ne ne.symm, upd_same]) upd_same fun b h1 h2 => by simp only [upd_ne h1, upd_ne h2]
theorem sc_NoName : FnScope ["self", "name"] ["self", "name"] (defScope (inClass (top 6) 0)) := ⟨rfl, rfl, rfl, by decide +kernel, rfl, by decide +kernel, by decide +kernel⟩
theorem ok_NoName {f : Addr} {fd : FuncData} (F : Fun K "__init__" "NoName.__init__" (inClass (top 6) 0) f fd) (B : BaseI K (He.ga K "FoldError")) (gB : mg "FoldError" = some (.ref (He.ga K "FoldError")))
    (R : ErC K ys "NoName" ["name"]) : FnOk P w K mg base CX0 1 f fd ["self", "name"] (spErr (He.ga K "NoName") ["name"]) := by
  refine F.ok sc_NoName (fun vs H Q E h => ?_) (fun cdv A outer s H vs Q E hr h => ?_)
  · obtain ⟨a, us, rfl, hl, _⟩ := h; simpa using hl
  · obtain ⟨a, us, rfl, hl, ha, k⟩ := h
    obtain ⟨y0, rfl⟩ : ∃ y0, us = [y0] := match us, hl with | [y0], _ => ⟨y0, rfl⟩
    refine ⟨_, (pss_cons (ps_expr (pe_binit B rfl gB (pa_cons (pv 0) (pa_cons pe_str pa_nil))))
      (pss_one (ps_ost (pv 0) (pv 1) rfl))), ?_⟩
    walk_at "rd"
    refine ⟨a, _, _, rfl, by show 1 ≤ 1000; decide, R.oex, ha, ?_⟩
    walk_at "rd"
    refine rd_ost1 R.oex (R.no _ (by simp)) ha fun d hd ne => ?_
    walk_at "rd"
    exact k d _ hd ne upd_same (by rw [upd_ne ne]; exact upd_same) fun b h1 h2 => by simp only [upd_ne h1, upd_ne h2]
theorem sc_TakenName : FnScope ["self", "name"] ["self", "name"] (defScope (inClass (top 7) 0)) := ⟨rfl, rfl, rfl, by decide +kernel, rfl, by decide +kernel, by decide +kernel⟩
theorem ok_TakenName {f : Addr} {fd : FuncData} (F : Fun K "__init__" "TakenName.__init__" (inClass (top 7) 0) f fd) (B : BaseI K (He.ga K "FoldError")) (gB : mg "FoldError" = some (.ref (He.ga K "FoldError")))
    (R : ErC K ys "TakenName" ["name"]) : FnOk P w K mg base CX0 1 f fd ["self", "name"] (spErr (He.ga K "TakenName") ["name"]) := by
  refine F.ok sc_TakenName (fun vs H Q E h => ?_) (fun cdv A outer s H vs Q E hr h => ?_)
  · obtain ⟨a, us, rfl, hl, _⟩ := h; simpa using hl
  · obtain ⟨a, us, rfl, hl, ha, k⟩ := h
    obtain ⟨y0, rfl⟩ : ∃ y0, us = [y0] := match us, hl with | [y0], _ => ⟨y0, rfl⟩
    refine ⟨_, (pss_cons (ps_expr (pe_binit B rfl gB (pa_cons (pv 0) (pa_cons pe_str pa_nil))))
      (pss_one (ps_ost (pv 0) (pv 1) rfl))), ?_⟩
    walk_at "rd"
    refine ⟨a, _, _, rfl, by show 1 ≤ 1000; decide, R.oex, ha, ?_⟩
    walk_at "rd"
    refine rd_ost1 R.oex (R.no _ (by simp)) ha fun d hd ne => ?_
    walk_at "rd"
    exact k d _ hd ne upd_same (by rw [upd_ne ne]; exact upd_same) fun b h1 h2 => by simp only [upd_ne h1, upd_ne h2]
theorem sc_Unlike : FnScope ["self", "what"] ["self", "what"] (defScope (inClass (top 8) 0)) := ⟨rfl, rfl, rfl, by decide +kernel, rfl, by decide +kernel, by decide +kernel⟩
theorem ok_Unlike {f : Addr} {fd : FuncData} (F : Fun K "__init__" "Unlike.__init__" (inClass (top 8) 0) f fd) (B : BaseI K (He.ga K "FoldError")) (gB : mg "FoldError" = some (.ref (He.ga K "FoldError")))
    (R : ErC K ys "Unlike" ["what"]) : FnOk P w K mg base CX0 1 f fd ["self", "what"] (spErr (He.ga K "Unlike") ["what"]) := by
  refine F.ok sc_Unlike (fun vs H Q E h => ?_) (fun cdv A outer s H vs Q E hr h => ?_)
  · obtain ⟨a, us, rfl, hl, _⟩ := h; simpa using hl
  · obtain ⟨a, us, rfl, hl, ha, k⟩ := h
    obtain ⟨y0, rfl⟩ : ∃ y0, us = [y0] := match us, hl with | [y0], _ => ⟨y0, rfl⟩
    refine ⟨_, (pss_cons (ps_expr (pe_binit B rfl gB (pa_cons (pv 0) (pa_cons pe_str pa_nil))))
      (pss_one (ps_ost (pv 0) (pv 1) rfl))), ?_⟩
    walk_at "rd"
    refine ⟨a, _, _, rfl, by show 1 ≤ 1000; decide, R.oex, ha, ?_⟩
    walk_at "rd"
    refine rd_ost1 R.oex (R.no _ (by simp)) ha fun d hd ne => ?_
    walk_at "rd"
    exact k d _ hd ne upd_same (by rw [upd_ne ne]; exact upd_same) fun b h1 h2 => by simp only [upd_ne h1, upd_ne h2]
theorem sc_TooMany : FnScope ["self", "what", "many", "limit"] ["self", "what", "many", "limit"] (defScope (inClass (top 9) 0)) := ⟨rfl, rfl, rfl, by decide +kernel, rfl, by decide +kernel, by decide +kernel⟩
theorem ok_TooMany {f : Addr} {fd : FuncData} (F : Fun K "__init__" "TooMany.__init__" (inClass (top 9) 0) f fd) (B : BaseI K (He.ga K "FoldError")) (gB : mg "FoldError" = some (.ref (He.ga K "FoldError")))
    (R : ErC K ys "TooMany" ["what", "many", "limit"]) : FnOk P w K mg base CX0 1 f fd ["self", "what", "many", "limit"] (spErr (He.ga K "TooMany") ["what", "many", "limit"]) := by
  refine F.ok sc_TooMany (fun vs H Q E h => ?_) (fun cdv A outer s H vs Q E hr h => ?_)
  · obtain ⟨a, us, rfl, hl, _⟩ := h; simpa using hl
  · obtain ⟨a, us, rfl, hl, ha, k⟩ := h
    obtain ⟨y0, y1, y2, rfl⟩ : ∃ y0 y1 y2, us = [y0, y1, y2] := match us, hl with | [y0, y1, y2], _ => ⟨y0,  y1,  y2, rfl⟩
    refine ⟨_, (pss_cons (ps_expr (pe_binit B rfl gB (pa_cons (pv 0) (pa_cons pe_str pa_nil))))
      (pss_cons (ps_ost (pv 0) (pv 1) rfl)
      (pss_cons (ps_ost (pv 0) (pv 2) rfl)
      (pss_one (ps_ost (pv 0) (pv 3) rfl))))), ?_⟩
    walk_at "rd"
    refine ⟨a, _, _, rfl, by show 1 ≤ 1000; decide, R.oex, ha, ?_⟩
    walk_at "rd"
    refine rd_ost1 R.oex (R.no _ (by simp)) ha fun d hd ne => ?_
    walk_at "rd"
    refine rd_ost2 R.oex (R.no _ (by simp)) (dx := d) upd_same (by rw [upd_ne ne]; exact upd_same) (by show 1 ≤ 900; decide) ?_
    walk_at "rd"
    refine rd_ost2 R.oex (R.no _ (by simp)) (dx := d) (by rw [upd_ne ne.symm]; exact upd_same) upd_same (by show 2 ≤ 900; decide) ?_
    walk_at "rd"
    exact k d _ hd ne (by simp only [upd_ne ne.symm, upd_same]) upd_same fun b h1 h2 => by simp only [upd_ne h1, upd_ne h2]
theorem sc_NotKept : FnScope ["self", "promise", "witness"] ["self", "promise", "witness"] (defScope (inClass (top 10) 0)) := ⟨rfl, rfl, rfl, by decide +kernel, rfl, by decide +kernel, by decide +kernel⟩
theorem ok_NotKept {f : Addr} {fd : FuncData} (F : Fun K "__init__" "NotKept.__init__" (inClass (top 10) 0) f fd) (B : BaseI K (He.ga K "FoldError")) (gB : mg "FoldError" = some (.ref (He.ga K "FoldError")))
    (R : ErC K ys "NotKept" ["promise", "witness"]) : FnOk P w K mg base CX0 1 f fd ["self", "promise", "witness"] (spErr (He.ga K "NotKept") ["promise", "witness"]) := by
  refine F.ok sc_NotKept (fun vs H Q E h => ?_) (fun cdv A outer s H vs Q E hr h => ?_)
  · obtain ⟨a, us, rfl, hl, _⟩ := h; simpa using hl
  · obtain ⟨a, us, rfl, hl, ha, k⟩ := h
    obtain ⟨y0, y1, rfl⟩ : ∃ y0 y1, us = [y0, y1] := match us, hl with | [y0, y1], _ => ⟨y0,  y1, rfl⟩
    refine ⟨_, (pss_cons (ps_expr (pe_binit B rfl gB (pa_cons (pv 0) (pa_cons pe_str pa_nil))))
      (pss_cons (ps_ost (pv 0) (pv 1) rfl)
      (pss_one (ps_ost (pv 0) (pv 2) rfl)))), ?_⟩
    walk_at "rd"
    refine ⟨a, _, _, rfl, by show 1 ≤ 1000; decide, R.oex, ha, ?_⟩
    walk_at "rd"
    refine rd_ost1 R.oex (R.no _ (by simp)) ha fun d hd ne => ?_
    walk_at "rd"
    refine rd_ost2 R.oex (R.no _ (by simp)) (dx := d) upd_same (by rw [upd_ne ne]; exact upd_same) (by show 1 ≤ 900; decide) ?_
    walk_at "rd"
    exact k d _ hd ne (by simp only [upd_ne ne.symm, upd_same]) upd_same fun b h1 h2 => by simp only [upd_ne h1, upd_ne h2]
theorem sc_NothingToUndo : FnScope ["self"] ["self"] (defScope (inClass (top 11) 0)) := ⟨rfl, rfl, rfl, by decide +kernel, rfl, by decide +kernel, by decide +kernel⟩
theorem ok_NothingToUndo {f : Addr} {fd : FuncData} (F : Fun K "__init__" "NothingToUndo.__init__" (inClass (top 11) 0) f fd) (B : BaseI K (He.ga K "FoldError")) (gB : mg "FoldError" = some (.ref (He.ga K "FoldError")))
    (R : ErC K ys "NothingToUndo" []) : FnOk P w K mg base CX0 1 f fd ["self"] (spErr0 (He.ga K "NothingToUndo")) := by
  refine F.ok sc_NothingToUndo (fun vs H Q E h => ?_) (fun cdv A outer s H vs Q E hr h => ?_)
  · obtain ⟨a, rfl, _⟩ := h; rfl
  · obtain ⟨a, rfl, ha, k⟩ := h
    refine ⟨_, (pss_one (ps_expr (pe_binit B rfl gB (pa_cons (pv 0) (pa_cons pe_str pa_nil))))), ?_⟩
    walk_at "rd"
    refine ⟨a, _, _, rfl, by show 1 ≤ 1000; decide, R.oex, ha, ?_⟩
    walk_at "rd"
    exact k
theorem sc_NothingToRedo : FnScope ["self"] ["self"] (defScope (inClass (top 12) 0)) := ⟨rfl, rfl, rfl, by decide +kernel, rfl, by decide +kernel, by decide +kernel⟩
theorem ok_NothingToRedo {f : Addr} {fd : FuncData} (F : Fun K "__init__" "NothingToRedo.__init__" (inClass (top 12) 0) f fd) (B : BaseI K (He.ga K "FoldError")) (gB : mg "FoldError" = some (.ref (He.ga K "FoldError")))
    (R : ErC K ys "NothingToRedo" []) : FnOk P w K mg base CX0 1 f fd ["self"] (spErr0 (He.ga K "NothingToRedo")) := by
  refine F.ok sc_NothingToRedo (fun vs H Q E h => ?_) (fun cdv A outer s H vs Q E hr h => ?_)
  · obtain ⟨a, rfl, _⟩ := h; rfl
  · obtain ⟨a, rfl, ha, k⟩ := h
    refine ⟨_, (pss_one (ps_expr (pe_binit B rfl gB (pa_cons (pv 0) (pa_cons pe_str pa_nil))))), ?_⟩
    walk_at "rd"
    refine ⟨a, _, _, rfl, by show 1 ≤ 1000; decide, R.oex, ha, ?_⟩
    walk_at "rd"
    exact k
end
end Lw

set_option Elab.async false
set_option linter.all false
set_option maxRecDepth 100000
set_option maxHeartbeats 8000000
namespace Lw
open PySem PySem.Spec PyProof.Rows L2 Fk
local macro_rules | `(tactic| walk_at "rd at") => `(tactic| first | assumption | exact upd_same | exact (upd_ne (by assumption)).trans (by walk_at "rd at"))
local macro_rules | `(tactic| walk_at "rd dget") => `(tactic| first | exact g_cells (by walk_at "rd at") | exact g_at (by walk_at "rd at") | exact g_digits (by walk_at "rd at") | exact g_count (by walk_at "rd at") | exact g_fold (by walk_at "rd at"))
local macro_rules | `(tactic| walk_at "rd dput") => `(tactic| first | exact p_at (by walk_at "rd at") | exact p_digits (by walk_at "rd at") | exact p_count (by walk_at "rd at") | exact p_fold (by walk_at "rd at"))
local macro_rules | `(tactic| walk_at "rd seq") => `(tactic| first | exact .inl (SqL.of (by walk_at "rd at")) | exact .inr (SqT.of (by walk_at "rd at")) | exact .inl (by assumption) | exact .inr (by assumption))
local macro_rules | `(tactic| walk_at "rd cond") => `(tactic| first | decide | assumption | (show (0 : Int) < _; omega) | (refine And.intro ?_ ?_ <;> omega) | (refine Or.inr ?_; refine And.intro ?_ ?_ <;> decide) | (refine Or.inl ?_; refine And.intro ?_ ?_ <;> omega) | (refine Or.inr ?_; refine And.intro ?_ ?_ <;> omega))
local macro_rules | `(tactic| walk_at "rd mem") => `(tactic| first | decide | assumption | (simp; done))
local macro_rules | `(tactic| walk_at "rd look") => `(tactic| first | rfl | assumption)
local macro_rules | `(tactic| walk_at "rd small") => `(tactic| first | decide | (simp only [List.length_append, List.length_cons, List.length_nil]; omega))
local macro_rules | `(tactic| walk_at "rd seqL") => `(tactic| first | exact SqL.of (by walk_at "rd at") | assumption)
local macro_rules | `(tactic| walk_at "rd item") => `(tactic| first | rfl | assumption)
local macro_rules | `(tactic| walk_at "rd known") => `(tactic| first | assumption | decide +kernel)
local macro_rules | `(tactic| walk_at "rd bool") => `(tactic| first | assumption | rfl)
local macro_rules | `(tactic| walk_at "rd") => `(tactic| (repeat (first
  | ((with_reducible apply rd_var); (exact rfl))
  | with_reducible refine rd_seq ?_ | with_reducible refine rd_asg ?_ | with_reducible refine rd_ret ?_ | with_reducible refine rd_retN ?_
  | with_reducible refine rd_drop ?_ | with_reducible refine rd_next ?_ | with_reducible refine rd_ifs ?_
  | with_reducible refine rd_test ?_ | with_reducible refine rd_tB ?_ | with_reducible refine rd_bl ?_ | with_reducible refine rd_and ?_
  | with_reducible refine rd_or ?_ | with_reducible refine rd_not ?_ | with_reducible refine rd_andV ?_ | with_reducible refine rd_orV ?_ | with_reducible refine rd_notV ?_
  | with_reducible refine rd_c ?_ | with_reducible refine rd_op ?_ | with_reducible refine rd_un ?_ | with_reducible refine rd_rI0 ?_ | with_reducible refine rd_rU ?_
  | with_reducible refine rd_cb ?_ | with_reducible refine rd_cons ?_ | with_reducible refine rd_nil ?_
  | with_reducible refine rd_gname ?_ | with_reducible refine rd_eqI ?_ | with_reducible refine rd_neI ?_ | with_reducible refine rd_int1 ?_
  | with_reducible refine rd_dgetS ?_ | with_reducible refine rd_dput ?_ | with_reducible refine rd_call ?_ | with_reducible refine rd_lst ?_ | with_reducible refine rd_tup ?_
  | with_reducible refine rd_vei ?_ | with_reducible refine rd_ost ?_ | with_reducible refine rd_mko ?_
  | with_reducible refine rd_pcons ?_ | with_reducible refine rd_pnil ?_
  | with_reducible refine rd_ifT ?_ | with_reducible refine rd_ifF ?_
  | ((with_reducible apply rd_dget); (walk_at "rd dget"))
  | ((with_reducible apply rd_len); (walk_at "rd seq"))
  | ((with_reducible apply rd_dputE); (walk_at "rd dput"))
  | ((with_reducible apply rd_rI); (walk_at "rd cond"))
  | ((with_reducible apply rd_isH); (assumption); (walk_at "rd mem"); (assumption)) | ((with_reducible apply rd_isVE); (assumption); (assumption))
  | with_reducible refine rd_xhS ?_ | with_reducible refine rd_bm ?_ | with_reducible refine rd_bm0 ?_
  | ((with_reducible apply rd_xh); (assumption); (walk_at "rd mem"); (rfl); (walk_at "rd at"); (walk_at "rd look"))
  | ((with_reducible apply rd_tyL); (walk_at "rd at"))
  | ((with_reducible apply rd_append); (walk_at "rd at"); (walk_at "rd small"))
  | ((with_reducible apply rd_cat); (walk_at "rd at"); (walk_at "rd at"); (walk_at "rd small"))
  | ((with_reducible apply rd_in); (walk_at "rd seq"); (rfl); (rfl))
  | ((with_reducible apply rd_ixL); (walk_at "rd seqL"); (walk_at "rd item"))
  | ((with_reducible apply rd_ifDT); (walk_at "rd known")) | ((with_reducible apply rd_ifDF); (walk_at "rd known"))
  | ((with_reducible apply rd_ifNT); (walk_at "rd known")) | ((with_reducible apply rd_ifNF); (walk_at "rd known"))
  | ((with_reducible apply rd_ifET); (walk_at "rd bool")) | ((with_reducible apply rd_ifEF); (walk_at "rd bool"))
  | walk_at "rd own")))

def errs : List (Str × List Str) := [("BadText", ["line", "word"]), ("BadName", ["name"]), ("BadNumber", ["what", "number"]), ("BadRow", ["what", "row"]), ("NoName", ["name"]), ("TakenName", ["name"]), ("Unlike", ["what"]), ("TooMany", ["what", "many", "limit"]), ("NotKept", ["promise", "witness"]), ("NothingToUndo", []), ("NothingToRedo", [])]
/-- all that is known of the error classes -/
structure Er (K : PySem.W.Frag) (mg : Str → Option Value) : Prop where
  cls : ∀ q ∈ errs, ErC K ys q.1 q.2
  at_ : ∀ q ∈ errs, mg q.1 = some (.ref (He.ga K q.1))
  gB : mg "FoldError" = some (.ref (He.ga K "FoldError"))
  base : BaseI K (He.ga K "FoldError")
/-- the __init__s -/
structure Inits (P : Program) (w : World) (K : PySem.W.Frag) (mg : Str → Option Value) (base : Heap) : Prop where
  iBadText : ∃ fd, FnOk P w K mg base CX0 1 (He.ma K (He.ga K "BadText") "__init__") fd ["self", "line", "word"] (spErr (He.ga K "BadText") ["line", "word"]) ∧ Binds K fd ["self", "line", "word"] []
  iBadName : ∃ fd, FnOk P w K mg base CX0 1 (He.ma K (He.ga K "BadName") "__init__") fd ["self", "name"] (spErr (He.ga K "BadName") ["name"]) ∧ Binds K fd ["self", "name"] []
  iBadNumber : ∃ fd, FnOk P w K mg base CX0 1 (He.ma K (He.ga K "BadNumber") "__init__") fd ["self", "what", "number"] (spErr (He.ga K "BadNumber") ["what", "number"]) ∧ Binds K fd ["self", "what", "number"] []
  iBadRow : ∃ fd, FnOk P w K mg base CX0 1 (He.ma K (He.ga K "BadRow") "__init__") fd ["self", "what", "row"] (spErr (He.ga K "BadRow") ["what", "row"]) ∧ Binds K fd ["self", "what", "row"] []
  iNoName : ∃ fd, FnOk P w K mg base CX0 1 (He.ma K (He.ga K "NoName") "__init__") fd ["self", "name"] (spErr (He.ga K "NoName") ["name"]) ∧ Binds K fd ["self", "name"] []
  iTakenName : ∃ fd, FnOk P w K mg base CX0 1 (He.ma K (He.ga K "TakenName") "__init__") fd ["self", "name"] (spErr (He.ga K "TakenName") ["name"]) ∧ Binds K fd ["self", "name"] []
  iUnlike : ∃ fd, FnOk P w K mg base CX0 1 (He.ma K (He.ga K "Unlike") "__init__") fd ["self", "what"] (spErr (He.ga K "Unlike") ["what"]) ∧ Binds K fd ["self", "what"] []
  iTooMany : ∃ fd, FnOk P w K mg base CX0 1 (He.ma K (He.ga K "TooMany") "__init__") fd ["self", "what", "many", "limit"] (spErr (He.ga K "TooMany") ["what", "many", "limit"]) ∧ Binds K fd ["self", "what", "many", "limit"] []
  iNotKept : ∃ fd, FnOk P w K mg base CX0 1 (He.ma K (He.ga K "NotKept") "__init__") fd ["self", "promise", "witness"] (spErr (He.ga K "NotKept") ["promise", "witness"]) ∧ Binds K fd ["self", "promise", "witness"] []
  iNothingToUndo : ∃ fd, FnOk P w K mg base CX0 1 (He.ma K (He.ga K "NothingToUndo") "__init__") fd ["self"] (spErr0 (He.ga K "NothingToUndo")) ∧ Binds K fd ["self"] []
  iNothingToRedo : ∃ fd, FnOk P w K mg base CX0 1 (He.ma K (He.ga K "NothingToRedo") "__init__") fd ["self"] (spErr0 (He.ga K "NothingToRedo")) ∧ Binds K fd ["self"] []
section
variable {P : Program} {w : World} {K : PySem.W.Frag} {mg : Str → Option Value} {base : Heap}
def spFall (K : PySem.W.Frag) : Sp := fun vs H _ E => ∃ (i : Nat) (nm : Str) (fs : List Str) (x y z : V), vs = [.int i, x, y, z] ∧ errs[i]? = some (nm, fs) ∧
  ∀ cls d H', Raised (He.ga K nm) (fs.zip [x, y, z]).reverse H cls d H' → E cls d H'
theorem idx {i : Nat} {q : Str × List Str} (h : errs[i]? = some q) : i < 11 := (List.getElem?_eq_some_iff.mp h).1

theorem Er.rBadText (X : Er K mg) : ErC K ys "BadText" ["line", "word"] := X.cls ("BadText", ["line", "word"]) (by simp [errs])
theorem Er.aBadText (X : Er K mg) : mg "BadText" = some (.ref (He.ga K "BadText")) := X.at_ ("BadText", ["line", "word"]) (by simp [errs])
theorem Er.rBadName (X : Er K mg) : ErC K ys "BadName" ["name"] := X.cls ("BadName", ["name"]) (by simp [errs])
theorem Er.aBadName (X : Er K mg) : mg "BadName" = some (.ref (He.ga K "BadName")) := X.at_ ("BadName", ["name"]) (by simp [errs])
theorem Er.rBadNumber (X : Er K mg) : ErC K ys "BadNumber" ["what", "number"] := X.cls ("BadNumber", ["what", "number"]) (by simp [errs])
theorem Er.aBadNumber (X : Er K mg) : mg "BadNumber" = some (.ref (He.ga K "BadNumber")) := X.at_ ("BadNumber", ["what", "number"]) (by simp [errs])
theorem Er.rBadRow (X : Er K mg) : ErC K ys "BadRow" ["what", "row"] := X.cls ("BadRow", ["what", "row"]) (by simp [errs])
theorem Er.aBadRow (X : Er K mg) : mg "BadRow" = some (.ref (He.ga K "BadRow")) := X.at_ ("BadRow", ["what", "row"]) (by simp [errs])
theorem Er.rNoName (X : Er K mg) : ErC K ys "NoName" ["name"] := X.cls ("NoName", ["name"]) (by simp [errs])
theorem Er.aNoName (X : Er K mg) : mg "NoName" = some (.ref (He.ga K "NoName")) := X.at_ ("NoName", ["name"]) (by simp [errs])
theorem Er.rTakenName (X : Er K mg) : ErC K ys "TakenName" ["name"] := X.cls ("TakenName", ["name"]) (by simp [errs])
theorem Er.aTakenName (X : Er K mg) : mg "TakenName" = some (.ref (He.ga K "TakenName")) := X.at_ ("TakenName", ["name"]) (by simp [errs])
theorem Er.rUnlike (X : Er K mg) : ErC K ys "Unlike" ["what"] := X.cls ("Unlike", ["what"]) (by simp [errs])
theorem Er.aUnlike (X : Er K mg) : mg "Unlike" = some (.ref (He.ga K "Unlike")) := X.at_ ("Unlike", ["what"]) (by simp [errs])
theorem Er.rTooMany (X : Er K mg) : ErC K ys "TooMany" ["what", "many", "limit"] := X.cls ("TooMany", ["what", "many", "limit"]) (by simp [errs])
theorem Er.aTooMany (X : Er K mg) : mg "TooMany" = some (.ref (He.ga K "TooMany")) := X.at_ ("TooMany", ["what", "many", "limit"]) (by simp [errs])
theorem Er.rNotKept (X : Er K mg) : ErC K ys "NotKept" ["promise", "witness"] := X.cls ("NotKept", ["promise", "witness"]) (by simp [errs])
theorem Er.aNotKept (X : Er K mg) : mg "NotKept" = some (.ref (He.ga K "NotKept")) := X.at_ ("NotKept", ["promise", "witness"]) (by simp [errs])
theorem Er.rNothingToUndo (X : Er K mg) : ErC K ys "NothingToUndo" [] := X.cls ("NothingToUndo", []) (by simp [errs])
theorem Er.aNothingToUndo (X : Er K mg) : mg "NothingToUndo" = some (.ref (He.ga K "NothingToUndo")) := X.at_ ("NothingToUndo", []) (by simp [errs])
theorem Er.rNothingToRedo (X : Er K mg) : ErC K ys "NothingToRedo" [] := X.cls ("NothingToRedo", []) (by simp [errs])
theorem Er.aNothingToRedo (X : Er K mg) : mg "NothingToRedo" = some (.ref (He.ga K "NothingToRedo")) := X.at_ ("NothingToRedo", []) (by simp [errs])
abbrev sO : Stmt := top 21
theorem scsO : FnScope ["kind", "one", "two", "three"] ["kind", "one", "two", "three"] (defScope sO) := ⟨rfl, rfl, rfl, by decide +kernel, rfl, by decide +kernel, by decide +kernel⟩
theorem oksO {f : Addr} {fd : FuncData} (F : Fun K "_law_other_fall" "_law_other_fall" sO f fd) (X : Er K mg) (I : Inits P w K mg base) :
    FnOk P w K mg base (L2.CX P w) 3 f fd ["kind", "one", "two", "three"] ((fun vs H Q E => spFall K vs H Q E ∧ ∃ i : Nat, 6 ≤ i ∧ vs[0]? = some (.int i))) := by
  obtain ⟨_, JBadText⟩ := I.iBadText
  obtain ⟨_, JBadName⟩ := I.iBadName
  obtain ⟨_, JBadNumber⟩ := I.iBadNumber
  obtain ⟨_, JBadRow⟩ := I.iBadRow
  obtain ⟨_, JNoName⟩ := I.iNoName
  obtain ⟨_, JTakenName⟩ := I.iTakenName
  obtain ⟨_, JUnlike⟩ := I.iUnlike
  obtain ⟨_, JTooMany⟩ := I.iTooMany
  obtain ⟨_, JNotKept⟩ := I.iNotKept
  obtain ⟨_, JNothingToUndo⟩ := I.iNothingToUndo
  obtain ⟨_, JNothingToRedo⟩ := I.iNothingToRedo
  refine F.okX scsO (fun vs H Q E h => ?_) (fun cdv A outer s H vs Q E hr h => ?_)
  · obtain ⟨⟨i, nm, fs, x, y, z, rfl, _⟩, _⟩ := h; rfl
  · obtain ⟨⟨i, nm, fs, x, y, z, rfl, he, k⟩, i', h6, hi'⟩ := h
    obtain rfl : i = i' := by have e : V.int (i : Int) = V.int (i' : Int) := Option.some.inj hi'; have := V.int.inj e; omega
    have hr2 : Room 2 _ := hr.mono (by decide)
    refine ⟨_, (pss_cons (ps_if (pt_cmpR op_eq (pv 0) pe_int (nomark _)) (pss_one (ps_raise rfl (takes_of rfl rfl rfl rfl) (pmk_oex X.rUnlike.oex X.rUnlike.init X.rUnlike.fn JUnlike.1 hr2 JUnlike.2 .nil pass0 rfl X.aUnlike (pa_cons (pv 1) pa_nil)))) pss_nil)
      (pss_cons (ps_if (pt_cmpR op_eq (pv 0) pe_int (nomark _)) (pss_one (ps_raise rfl (takes_of rfl rfl rfl rfl) (pmk_oex X.rTooMany.oex X.rTooMany.init X.rTooMany.fn JTooMany.1 hr2 JTooMany.2 .nil pass0 rfl X.aTooMany (pa_cons (pv 1) (pa_cons (pv 2) (pa_cons (pv 3) pa_nil)))))) pss_nil)
      (pss_cons (ps_if (pt_cmpR op_eq (pv 0) pe_int (nomark _)) (pss_one (ps_raise rfl (takes_of rfl rfl rfl rfl) (pmk_oex X.rNotKept.oex X.rNotKept.init X.rNotKept.fn JNotKept.1 hr2 JNotKept.2 .nil pass0 rfl X.aNotKept (pa_cons (pv 1) (pa_cons (pv 2) pa_nil))))) pss_nil)
      (pss_cons (ps_if (pt_cmpR op_eq (pv 0) pe_int (nomark _)) (pss_one (ps_raise rfl (takes_of rfl rfl rfl rfl) (pmk_bare X.rNothingToUndo.oex X.rNothingToUndo.init X.rNothingToUndo.fn JNothingToUndo.1 hr2 JNothingToUndo.2 pass0 rfl X.aNothingToUndo))) pss_nil)
      (pss_one (ps_raise rfl (takes_of rfl rfl rfl rfl) (pmk_bare X.rNothingToRedo.oex X.rNothingToRedo.init X.rNothingToRedo.fn JNothingToRedo.1 hr2 JNothingToRedo.2 pass0 rfl X.aNothingToRedo))))))), ?_⟩
    have hi := idx he
    obtain rfl | hi0 : i = 0 ∨ i ≠ 0 := by omega
    · omega
    obtain rfl | hi1 : i = 1 ∨ i ≠ 1 := by omega
    · omega
    obtain rfl | hi2 : i = 2 ∨ i ≠ 2 := by omega
    · omega
    obtain rfl | hi3 : i = 3 ∨ i ≠ 3 := by omega
    · omega
    obtain rfl | hi4 : i = 4 ∨ i ≠ 4 := by omega
    · omega
    obtain rfl | hi5 : i = 5 ∨ i ≠ 5 := by omega
    · omega
    obtain rfl | hi6 : i = 6 ∨ i ≠ 6 := by omega
    · obtain ⟨rfl, rfl⟩ : nm = "Unlike" ∧ fs = (["what"] : List Str) := by
        have q : some (("Unlike" : Str), (["what"] : List Str)) = some (nm, fs) := he
        simpa using And.intro (congrArg Prod.fst (Option.some.inj q)).symm (congrArg Prod.snd (Option.some.inj q)).symm
      walk_at "rd"
      exact rd_make (fs := ["what"]) (us := [x]) rfl (fun cls d H' r => k cls d H' r) (by show 1 ≤ 1000; decide)
    obtain rfl | hi7 : i = 7 ∨ i ≠ 7 := by omega
    · obtain ⟨rfl, rfl⟩ : nm = "TooMany" ∧ fs = (["what", "many", "limit"] : List Str) := by
        have q : some (("TooMany" : Str), (["what", "many", "limit"] : List Str)) = some (nm, fs) := he
        simpa using And.intro (congrArg Prod.fst (Option.some.inj q)).symm (congrArg Prod.snd (Option.some.inj q)).symm
      walk_at "rd"
      exact rd_make (fs := ["what", "many", "limit"]) (us := [x, y, z]) rfl (fun cls d H' r => k cls d H' r) (by show 3 ≤ 1000; decide)
    obtain rfl | hi8 : i = 8 ∨ i ≠ 8 := by omega
    · obtain ⟨rfl, rfl⟩ : nm = "NotKept" ∧ fs = (["promise", "witness"] : List Str) := by
        have q : some (("NotKept" : Str), (["promise", "witness"] : List Str)) = some (nm, fs) := he
        simpa using And.intro (congrArg Prod.fst (Option.some.inj q)).symm (congrArg Prod.snd (Option.some.inj q)).symm
      walk_at "rd"
      exact rd_make (fs := ["promise", "witness"]) (us := [x, y]) rfl (fun cls d H' r => k cls d H' r) (by show 2 ≤ 1000; decide)
    obtain rfl | hi9 : i = 9 ∨ i ≠ 9 := by omega
    · obtain ⟨rfl, rfl⟩ : nm = "NothingToUndo" ∧ fs = ([] : List Str) := by
        have q : some (("NothingToUndo" : Str), ([] : List Str)) = some (nm, fs) := he
        simpa using And.intro (congrArg Prod.fst (Option.some.inj q)).symm (congrArg Prod.snd (Option.some.inj q)).symm
      walk_at "rd"
      exact rd_make0 (σ := []) (fun cls d H' r => k cls d H' r)
    obtain rfl | hi10 : i = 10 ∨ i ≠ 10 := by omega
    · obtain ⟨rfl, rfl⟩ : nm = "NothingToRedo" ∧ fs = ([] : List Str) := by
        have q : some (("NothingToRedo" : Str), ([] : List Str)) = some (nm, fs) := he
        simpa using And.intro (congrArg Prod.fst (Option.some.inj q)).symm (congrArg Prod.snd (Option.some.inj q)).symm
      walk_at "rd"
      exact rd_make0 (σ := []) (fun cls d H' r => k cls d H' r)
    omega
abbrev sF : Stmt := top 20
theorem scsF : FnScope ["kind", "one", "two", "three"] ["kind", "one", "two", "three"] (defScope sF) := ⟨rfl, rfl, rfl, by decide +kernel, rfl, by decide +kernel, by decide +kernel⟩
theorem oksF {f : Addr} {fd : FuncData} (F : Fun K "_law_fall" "_law_fall" sF f fd) (X : Er K mg) (I : Inits P w K mg base)
    {f1 : Addr} {fd1 : FuncData} (G : FnOk P w K mg base (L2.CX P w) 3 f1 fd1 ["kind", "one", "two", "three"] (fun vs H Q E => spFall K vs H Q E ∧ ∃ i : Nat, 6 ≤ i ∧ vs[0]? = some (.int i))) (N1 : At K mg "_law_other_fall" f1 fd1 ["kind", "one", "two", "three"]) :
    FnOk P w K mg base (L2.CX P w) 4 f fd ["kind", "one", "two", "three"] (spFall K) := by
  obtain ⟨_, JBadText⟩ := I.iBadText
  obtain ⟨_, JBadName⟩ := I.iBadName
  obtain ⟨_, JBadNumber⟩ := I.iBadNumber
  obtain ⟨_, JBadRow⟩ := I.iBadRow
  obtain ⟨_, JNoName⟩ := I.iNoName
  obtain ⟨_, JTakenName⟩ := I.iTakenName
  obtain ⟨_, JUnlike⟩ := I.iUnlike
  obtain ⟨_, JTooMany⟩ := I.iTooMany
  obtain ⟨_, JNotKept⟩ := I.iNotKept
  obtain ⟨_, JNothingToUndo⟩ := I.iNothingToUndo
  obtain ⟨_, JNothingToRedo⟩ := I.iNothingToRedo
  refine F.okX scsF (fun vs H Q E h => ?_) (fun cdv A outer s H vs Q E hr h => ?_)
  · obtain ⟨i, nm, fs, x, y, z, rfl, _⟩ := h; rfl
  · obtain ⟨i, nm, fs, x, y, z, rfl, he, k⟩ := h
    have hr3 : Room 3 _ := hr
    have hr2 : Room 2 _ := hr.mono (by decide)
    refine ⟨_, (pss_cons (ps_if (pt_cmpR op_eq (pv 0) pe_int (nomark _)) (pss_one (ps_raise rfl (takes_of rfl rfl rfl rfl) (pmk_oex X.rBadText.oex X.rBadText.init X.rBadText.fn JBadText.1 hr2 JBadText.2 .nil pass0 rfl X.aBadText (pa_cons (pv 1) (pa_cons (pv 2) pa_nil))))) pss_nil)
      (pss_cons (ps_if (pt_cmpR op_eq (pv 0) pe_int (nomark _)) (pss_one (ps_raise rfl (takes_of rfl rfl rfl rfl) (pmk_oex X.rBadName.oex X.rBadName.init X.rBadName.fn JBadName.1 hr2 JBadName.2 .nil pass0 rfl X.aBadName (pa_cons (pv 1) pa_nil)))) pss_nil)
      (pss_cons (ps_if (pt_cmpR op_eq (pv 0) pe_int (nomark _)) (pss_one (ps_raise rfl (takes_of rfl rfl rfl rfl) (pmk_oex X.rBadNumber.oex X.rBadNumber.init X.rBadNumber.fn JBadNumber.1 hr2 JBadNumber.2 .nil pass0 rfl X.aBadNumber (pa_cons (pv 1) (pa_cons (pv 2) pa_nil))))) pss_nil)
      (pss_cons (ps_if (pt_cmpR op_eq (pv 0) pe_int (nomark _)) (pss_one (ps_raise rfl (takes_of rfl rfl rfl rfl) (pmk_oex X.rBadRow.oex X.rBadRow.init X.rBadRow.fn JBadRow.1 hr2 JBadRow.2 .nil pass0 rfl X.aBadRow (pa_cons (pv 1) (pa_cons (pv 2) pa_nil))))) pss_nil)
      (pss_cons (ps_if (pt_cmpR op_eq (pv 0) pe_int (nomark _)) (pss_one (ps_raise rfl (takes_of rfl rfl rfl rfl) (pmk_oex X.rNoName.oex X.rNoName.init X.rNoName.fn JNoName.1 hr2 JNoName.2 .nil pass0 rfl X.aNoName (pa_cons (pv 1) pa_nil)))) pss_nil)
      (pss_cons (ps_if (pt_cmpR op_eq (pv 0) pe_int (nomark _)) (pss_one (ps_raise rfl (takes_of rfl rfl rfl rfl) (pmk_oex X.rTakenName.oex X.rTakenName.init X.rTakenName.fn JTakenName.1 hr2 JTakenName.2 .nil pass0 rfl X.aTakenName (pa_cons (pv 1) pa_nil)))) pss_nil)
      (pss_one (ps_expr (pe_call G hr3 rfl N1.1 N1.2.1 N1.2.2 .nil (passes_call (takes_of rfl rfl rfl rfl) (fun _ _ _ _ h => h)) (pa_cons (pv 0) (pa_cons (pv 1) (pa_cons (pv 2) (pa_cons (pv 3) pa_nil))))))))))))), ?_⟩
    have hi := idx he
    obtain rfl | hi0 : i = 0 ∨ i ≠ 0 := by omega
    · obtain ⟨rfl, rfl⟩ : nm = "BadText" ∧ fs = (["line", "word"] : List Str) := by
        have q : some (("BadText" : Str), (["line", "word"] : List Str)) = some (nm, fs) := he
        simpa using And.intro (congrArg Prod.fst (Option.some.inj q)).symm (congrArg Prod.snd (Option.some.inj q)).symm
      walk_at "rd"
      exact rd_make (fs := ["line", "word"]) (us := [x, y]) rfl (fun cls d H' r => k cls d H' r) (by show 2 ≤ 1000; decide)
    obtain rfl | hi1 : i = 1 ∨ i ≠ 1 := by omega
    · obtain ⟨rfl, rfl⟩ : nm = "BadName" ∧ fs = (["name"] : List Str) := by
        have q : some (("BadName" : Str), (["name"] : List Str)) = some (nm, fs) := he
        simpa using And.intro (congrArg Prod.fst (Option.some.inj q)).symm (congrArg Prod.snd (Option.some.inj q)).symm
      walk_at "rd"
      exact rd_make (fs := ["name"]) (us := [x]) rfl (fun cls d H' r => k cls d H' r) (by show 1 ≤ 1000; decide)
    obtain rfl | hi2 : i = 2 ∨ i ≠ 2 := by omega
    · obtain ⟨rfl, rfl⟩ : nm = "BadNumber" ∧ fs = (["what", "number"] : List Str) := by
        have q : some (("BadNumber" : Str), (["what", "number"] : List Str)) = some (nm, fs) := he
        simpa using And.intro (congrArg Prod.fst (Option.some.inj q)).symm (congrArg Prod.snd (Option.some.inj q)).symm
      walk_at "rd"
      exact rd_make (fs := ["what", "number"]) (us := [x, y]) rfl (fun cls d H' r => k cls d H' r) (by show 2 ≤ 1000; decide)
    obtain rfl | hi3 : i = 3 ∨ i ≠ 3 := by omega
    · obtain ⟨rfl, rfl⟩ : nm = "BadRow" ∧ fs = (["what", "row"] : List Str) := by
        have q : some (("BadRow" : Str), (["what", "row"] : List Str)) = some (nm, fs) := he
        simpa using And.intro (congrArg Prod.fst (Option.some.inj q)).symm (congrArg Prod.snd (Option.some.inj q)).symm
      walk_at "rd"
      exact rd_make (fs := ["what", "row"]) (us := [x, y]) rfl (fun cls d H' r => k cls d H' r) (by show 2 ≤ 1000; decide)
    obtain rfl | hi4 : i = 4 ∨ i ≠ 4 := by omega
    · obtain ⟨rfl, rfl⟩ : nm = "NoName" ∧ fs = (["name"] : List Str) := by
        have q : some (("NoName" : Str), (["name"] : List Str)) = some (nm, fs) := he
        simpa using And.intro (congrArg Prod.fst (Option.some.inj q)).symm (congrArg Prod.snd (Option.some.inj q)).symm
      walk_at "rd"
      exact rd_make (fs := ["name"]) (us := [x]) rfl (fun cls d H' r => k cls d H' r) (by show 1 ≤ 1000; decide)
    obtain rfl | hi5 : i = 5 ∨ i ≠ 5 := by omega
    · obtain ⟨rfl, rfl⟩ : nm = "TakenName" ∧ fs = (["name"] : List Str) := by
        have q : some (("TakenName" : Str), (["name"] : List Str)) = some (nm, fs) := he
        simpa using And.intro (congrArg Prod.fst (Option.some.inj q)).symm (congrArg Prod.snd (Option.some.inj q)).symm
      walk_at "rd"
      exact rd_make (fs := ["name"]) (us := [x]) rfl (fun cls d H' r => k cls d H' r) (by show 1 ≤ 1000; decide)
    obtain rfl | hi6 : i = 6 ∨ i ≠ 6 := by omega
    · walk_at "rd"
      exact ⟨⟨6, nm, fs, x, y, z, rfl, he, k⟩, 6, by decide, rfl⟩
    obtain rfl | hi7 : i = 7 ∨ i ≠ 7 := by omega
    · walk_at "rd"
      exact ⟨⟨7, nm, fs, x, y, z, rfl, he, k⟩, 7, by decide, rfl⟩
    obtain rfl | hi8 : i = 8 ∨ i ≠ 8 := by omega
    · walk_at "rd"
      exact ⟨⟨8, nm, fs, x, y, z, rfl, he, k⟩, 8, by decide, rfl⟩
    obtain rfl | hi9 : i = 9 ∨ i ≠ 9 := by omega
    · walk_at "rd"
      exact ⟨⟨9, nm, fs, x, y, z, rfl, he, k⟩, 9, by decide, rfl⟩
    obtain rfl | hi10 : i = 10 ∨ i ≠ 10 := by omega
    · walk_at "rd"
      exact ⟨⟨10, nm, fs, x, y, z, rfl, he, k⟩, 10, by decide, rfl⟩
    omega
end
end Lw

set_option Elab.async false
set_option linter.all false
set_option maxRecDepth 100000
set_option maxHeartbeats 8000000
namespace Lw
open PySem PySem.Spec PyProof.Rows L2 Fk
local macro_rules | `(tactic| walk_at "rd at") => `(tactic| first | assumption | exact upd_same | exact (upd_ne (by assumption)).trans (by walk_at "rd at"))
local macro_rules | `(tactic| walk_at "rd dget") => `(tactic| first | exact g_cells (by walk_at "rd at") | exact g_at (by walk_at "rd at") | exact g_digits (by walk_at "rd at") | exact g_count (by walk_at "rd at") | exact g_fold (by walk_at "rd at"))
local macro_rules | `(tactic| walk_at "rd dput") => `(tactic| first | exact p_at (by walk_at "rd at") | exact p_digits (by walk_at "rd at") | exact p_count (by walk_at "rd at") | exact p_fold (by walk_at "rd at"))
local macro_rules | `(tactic| walk_at "rd seq") => `(tactic| first | exact .inl (SqL.of (by walk_at "rd at")) | exact .inr (SqT.of (by walk_at "rd at")) | exact .inl (by assumption) | exact .inr (by assumption))
local macro_rules | `(tactic| walk_at "rd cond") => `(tactic| first | decide | assumption | (show (0 : Int) < _; omega) | (refine And.intro ?_ ?_ <;> omega) | (refine Or.inr ?_; refine And.intro ?_ ?_ <;> decide) | (refine Or.inl ?_; refine And.intro ?_ ?_ <;> omega) | (refine Or.inr ?_; refine And.intro ?_ ?_ <;> omega))
local macro_rules | `(tactic| walk_at "rd held") => `(tactic| first | assumption | exact held_upd (by walk_at "rd held") (by walk_at "rd at") | exact held_new (by walk_at "rd held") (by assumption))
local macro_rules | `(tactic| walk_at "rd mem") => `(tactic| first | decide | assumption | (simp; done))
local macro_rules | `(tactic| walk_at "rd look") => `(tactic| first | rfl | assumption)
local macro_rules | `(tactic| walk_at "rd small") => `(tactic| first | decide | (simp only [List.length_append, List.length_cons, List.length_nil]; omega))
local macro_rules | `(tactic| walk_at "rd seqL") => `(tactic| first | exact SqL.of (by walk_at "rd at") | assumption)
local macro_rules | `(tactic| walk_at "rd item") => `(tactic| first | rfl | assumption)
local macro_rules | `(tactic| walk_at "rd known") => `(tactic| first | assumption | decide +kernel)
local macro_rules | `(tactic| walk_at "rd bool") => `(tactic| first | assumption | rfl)
local macro_rules | `(tactic| walk_at "rd") => `(tactic| (repeat (first
  | ((with_reducible apply rd_var); (exact rfl))
  | with_reducible refine rd_seq ?_ | with_reducible refine rd_asg ?_ | with_reducible refine rd_ret ?_ | with_reducible refine rd_retN ?_
  | with_reducible refine rd_drop ?_ | with_reducible refine rd_next ?_ | with_reducible refine rd_ifs ?_
  | with_reducible refine rd_test ?_ | with_reducible refine rd_tB ?_ | with_reducible refine rd_bl ?_ | with_reducible refine rd_and ?_
  | with_reducible refine rd_or ?_ | with_reducible refine rd_not ?_ | with_reducible refine rd_andV ?_ | with_reducible refine rd_orV ?_ | with_reducible refine rd_notV ?_
  | with_reducible refine rd_c ?_ | with_reducible refine rd_op ?_ | with_reducible refine rd_un ?_ | with_reducible refine rd_rI0 ?_ | with_reducible refine rd_rU ?_
  | with_reducible refine rd_cb ?_ | with_reducible refine rd_cons ?_ | with_reducible refine rd_nil ?_
  | with_reducible refine rd_gname ?_ | with_reducible refine rd_eqI ?_ | with_reducible refine rd_neI ?_ | with_reducible refine rd_int1 ?_
  | with_reducible refine rd_dgetS ?_ | with_reducible refine rd_dput ?_ | with_reducible refine rd_call ?_ | with_reducible refine rd_lst ?_ | with_reducible refine rd_tup ?_
  | with_reducible refine rd_vei ?_ | with_reducible refine rd_ost ?_ | with_reducible refine rd_mko ?_
  | with_reducible refine rd_pcons ?_ | with_reducible refine rd_pnil ?_
  | with_reducible refine rd_ifT ?_ | with_reducible refine rd_ifF ?_
  | ((with_reducible apply rd_dget); (walk_at "rd dget"))
  | ((with_reducible apply rd_len); (walk_at "rd seq"))
  | ((with_reducible apply rd_dputE); (walk_at "rd dput"))
  | ((with_reducible apply rd_rI); (walk_at "rd cond"))
  | ((with_reducible show rIsH _ _ _ _ _ _ _); (apply rd_isH); (assumption); (walk_at "rd mem"); (walk_at "rd held")) | ((with_reducible show rIsH _ _ _ _ _ _ _); (apply rd_isVE); (assumption); (walk_at "rd held"))
  | with_reducible refine rd_xhS ?_ | with_reducible refine rd_bm ?_ | with_reducible refine rd_bm0 ?_
  | ((with_reducible show V.ref _ = V.ref _ ∧ _); (apply rd_xh); (assumption); (walk_at "rd mem"); (rfl); (walk_at "rd at"); (walk_at "rd look"))
  | ((with_reducible apply rd_tyL); (walk_at "rd at"))
  | ((with_reducible apply rd_append); (walk_at "rd at"); (walk_at "rd small"))
  | ((with_reducible apply rd_cat); (walk_at "rd at"); (walk_at "rd at"); (walk_at "rd small"))
  | ((with_reducible apply rd_in); (walk_at "rd seq"); (rfl); (rfl))
  | ((with_reducible apply rd_ixL); (walk_at "rd seqL"); (walk_at "rd item"))
  | ((with_reducible apply rd_ifDT); (walk_at "rd known")) | ((with_reducible apply rd_ifDF); (walk_at "rd known"))
  | ((with_reducible apply rd_ifNT); (walk_at "rd known")) | ((with_reducible apply rd_ifNF); (walk_at "rd known"))
  | ((with_reducible apply rd_ifET); (walk_at "rd bool")) | ((with_reducible apply rd_ifEF); (walk_at "rd bool"))
  | walk_at "rd own")))

section
variable {P : Program} {w : World} {K : PySem.W.Frag} {mg : Str → Option Value} {base : Heap}
def spKinds (K : PySem.W.Frag) (zs : List Str) (a : Addr) (c : Value) (d : Option Addr) : Sp := fun vs H Q _ => ∃ (nm : Str) (fs : List Str), vs = [.ref a] ∧ (nm, fs) ∈ errs ∧ c = .ref (He.ga K nm) ∧
  (d = none ∨ ∃ dd gs, d = some dd ∧ H dd = some (.xd gs)) ∧ ∀ p H', H p = none → Same H H' → H' p = some (.lst ((zs.filter fun z => decide (nm = z)).map V.str)) → Q (.ref p) H'

abbrev sM : Stmt := top 19
theorem scsM : FnScope ["e", "found"] ["e"] (defScope sM) := ⟨rfl, rfl, rfl, by decide +kernel, rfl, by decide +kernel, by decide +kernel⟩
theorem oksM {f : Addr} {fd : FuncData} (F : Fun K "_law_more_kinds" "_law_more_kinds" sM f fd) (X : Er K mg) (T : Bi mg) :
    FnE P w K mg base 1 f fd ["e"] (spKinds K ["Unlike", "TooMany", "NotKept", "NothingToUndo", "NothingToRedo"]) := by
  refine okE F scsM (fun a c d vs H Q E h => ?_) (fun cdv A out s H vs Q p c d hh hr h => ?_)
  · obtain ⟨nm, fs, rfl, _⟩ := h; rfl
  · obtain ⟨nm, fs, rfl, hm, rfl, hd, k⟩ := h
    refine ⟨_, (pss_cons (ps_set (i := 1) scsM.nd rfl (Or.inl rfl) (pe_lst pa_nil))
      (pss_cons (ps_if (pt_val (pe_callB (call_isH hh) (by rfl) T.isinstance (by decide +kernel) (pa_cons (pv 0) (pa_cons (pe_glob (v := .ref _) rfl X.aUnlike rfl) pa_nil)))) (pss_one (ps_expr (pe_bm PySem.F.plainAttrs_list PySem.F.slot_list_append PySem.F.type_list_append mt_append (pv 1) (pa_cons pe_str pa_nil)))) pss_nil)
      (pss_cons (ps_if (pt_val (pe_callB (call_isH hh) (by rfl) T.isinstance (by decide +kernel) (pa_cons (pv 0) (pa_cons (pe_glob (v := .ref _) rfl X.aTooMany rfl) pa_nil)))) (pss_one (ps_expr (pe_bm PySem.F.plainAttrs_list PySem.F.slot_list_append PySem.F.type_list_append mt_append (pv 1) (pa_cons pe_str pa_nil)))) pss_nil)
      (pss_cons (ps_if (pt_val (pe_callB (call_isH hh) (by rfl) T.isinstance (by decide +kernel) (pa_cons (pv 0) (pa_cons (pe_glob (v := .ref _) rfl X.aNotKept rfl) pa_nil)))) (pss_one (ps_expr (pe_bm PySem.F.plainAttrs_list PySem.F.slot_list_append PySem.F.type_list_append mt_append (pv 1) (pa_cons pe_str pa_nil)))) pss_nil)
      (pss_cons (ps_if (pt_val (pe_callB (call_isH hh) (by rfl) T.isinstance (by decide +kernel) (pa_cons (pv 0) (pa_cons (pe_glob (v := .ref _) rfl X.aNothingToUndo rfl) pa_nil)))) (pss_one (ps_expr (pe_bm PySem.F.plainAttrs_list PySem.F.slot_list_append PySem.F.type_list_append mt_append (pv 1) (pa_cons pe_str pa_nil)))) pss_nil)
      (pss_cons (ps_if (pt_val (pe_callB (call_isH hh) (by rfl) T.isinstance (by decide +kernel) (pa_cons (pv 0) (pa_cons (pe_glob (v := .ref _) rfl X.aNothingToRedo rfl) pa_nil)))) (pss_one (ps_expr (pe_bm PySem.F.plainAttrs_list PySem.F.slot_list_append PySem.F.type_list_append mt_append (pv 1) (pa_cons pe_str pa_nil)))) pss_nil)
      (pss_one (ps_ret (pv 1))))))))), ?_⟩
    walk_at "rd"
    refine rd_new (by decide) fun l hl => ?_
    simp only [errs, List.mem_cons, List.not_mem_nil, or_false, Prod.mk.injEq] at hm
    obtain ⟨rfl, rfl⟩ | ⟨rfl, rfl⟩ | ⟨rfl, rfl⟩ | ⟨rfl, rfl⟩ | ⟨rfl, rfl⟩ | ⟨rfl, rfl⟩ | ⟨rfl, rfl⟩ | ⟨rfl, rfl⟩ | ⟨rfl, rfl⟩ | ⟨rfl, rfl⟩ | ⟨rfl, rfl⟩ := hm
    · have R := X.rBadText
      walk_at "rd"
      simp only [upd_upd]
      refine k l _ hl (same_new hl) ?_
      rw [upd_same]
      exact congrArg (fun z => some (HO.lst z)) (by decide +kernel)
    · have R := X.rBadName
      walk_at "rd"
      simp only [upd_upd]
      refine k l _ hl (same_new hl) ?_
      rw [upd_same]
      exact congrArg (fun z => some (HO.lst z)) (by decide +kernel)
    · have R := X.rBadNumber
      walk_at "rd"
      simp only [upd_upd]
      refine k l _ hl (same_new hl) ?_
      rw [upd_same]
      exact congrArg (fun z => some (HO.lst z)) (by decide +kernel)
    · have R := X.rBadRow
      walk_at "rd"
      simp only [upd_upd]
      refine k l _ hl (same_new hl) ?_
      rw [upd_same]
      exact congrArg (fun z => some (HO.lst z)) (by decide +kernel)
    · have R := X.rNoName
      walk_at "rd"
      simp only [upd_upd]
      refine k l _ hl (same_new hl) ?_
      rw [upd_same]
      exact congrArg (fun z => some (HO.lst z)) (by decide +kernel)
    · have R := X.rTakenName
      walk_at "rd"
      simp only [upd_upd]
      refine k l _ hl (same_new hl) ?_
      rw [upd_same]
      exact congrArg (fun z => some (HO.lst z)) (by decide +kernel)
    · have R := X.rUnlike
      walk_at "rd"
      simp only [upd_upd]
      refine k l _ hl (same_new hl) ?_
      rw [upd_same]
      exact congrArg (fun z => some (HO.lst z)) (by decide +kernel)
    · have R := X.rTooMany
      walk_at "rd"
      simp only [upd_upd]
      refine k l _ hl (same_new hl) ?_
      rw [upd_same]
      exact congrArg (fun z => some (HO.lst z)) (by decide +kernel)
    · have R := X.rNotKept
      walk_at "rd"
      simp only [upd_upd]
      refine k l _ hl (same_new hl) ?_
      rw [upd_same]
      exact congrArg (fun z => some (HO.lst z)) (by decide +kernel)
    · have R := X.rNothingToUndo
      walk_at "rd"
      simp only [upd_upd]
      refine k l _ hl (same_new hl) ?_
      rw [upd_same]
      exact congrArg (fun z => some (HO.lst z)) (by decide +kernel)
    · have R := X.rNothingToRedo
      walk_at "rd"
      simp only [upd_upd]
      refine k l _ hl (same_new hl) ?_
      rw [upd_same]
      exact congrArg (fun z => some (HO.lst z)) (by decide +kernel)
abbrev sC : Stmt := top 18
theorem scsC : FnScope ["e", "found"] ["e"] (defScope sC) := ⟨rfl, rfl, rfl, by decide +kernel, rfl, by decide +kernel, by decide +kernel⟩
theorem oksC {f : Addr} {fd : FuncData} (F : Fun K "_law_classes" "_law_classes" sC f fd) (X : Er K mg) (T : Bi mg) {f1 : Addr} {fd1 : FuncData}
    (G : FnE P w K mg base 1 f1 fd1 ["e"] (spKinds K ["Unlike", "TooMany", "NotKept", "NothingToUndo", "NothingToRedo"])) (N1 : At K mg "_law_more_kinds" f1 fd1 ["e"]) :
    FnE P w K mg base 2 f fd ["e"] (spKinds K ["BadText", "BadName", "BadNumber", "BadRow", "NoName", "TakenName", "Unlike", "TooMany", "NotKept", "NothingToUndo", "NothingToRedo"]) := by
  refine okE F scsC (fun a c d vs H Q E h => ?_) (fun cdv A out s H vs Q p c d hh hr h => ?_)
  · obtain ⟨nm, fs, rfl, _⟩ := h; rfl
  · obtain ⟨nm, fs, rfl, hm, rfl, hd, k⟩ := h
    have hr1 := hr.mono (j := 1) (by decide)
    refine ⟨_, (pss_cons (ps_set (i := 1) scsC.nd rfl (Or.inl rfl) (pe_lst pa_nil))
      (pss_cons (ps_if (pt_val (pe_callB (call_isH hh) (by rfl) T.isinstance (by decide +kernel) (pa_cons (pv 0) (pa_cons (pe_glob (v := .ref _) rfl X.aBadText rfl) pa_nil)))) (pss_one (ps_expr (pe_bm PySem.F.plainAttrs_list PySem.F.slot_list_append PySem.F.type_list_append mt_append (pv 1) (pa_cons pe_str pa_nil)))) pss_nil)
      (pss_cons (ps_if (pt_val (pe_callB (call_isH hh) (by rfl) T.isinstance (by decide +kernel) (pa_cons (pv 0) (pa_cons (pe_glob (v := .ref _) rfl X.aBadName rfl) pa_nil)))) (pss_one (ps_expr (pe_bm PySem.F.plainAttrs_list PySem.F.slot_list_append PySem.F.type_list_append mt_append (pv 1) (pa_cons pe_str pa_nil)))) pss_nil)
      (pss_cons (ps_if (pt_val (pe_callB (call_isH hh) (by rfl) T.isinstance (by decide +kernel) (pa_cons (pv 0) (pa_cons (pe_glob (v := .ref _) rfl X.aBadNumber rfl) pa_nil)))) (pss_one (ps_expr (pe_bm PySem.F.plainAttrs_list PySem.F.slot_list_append PySem.F.type_list_append mt_append (pv 1) (pa_cons pe_str pa_nil)))) pss_nil)
      (pss_cons (ps_if (pt_val (pe_callB (call_isH hh) (by rfl) T.isinstance (by decide +kernel) (pa_cons (pv 0) (pa_cons (pe_glob (v := .ref _) rfl X.aBadRow rfl) pa_nil)))) (pss_one (ps_expr (pe_bm PySem.F.plainAttrs_list PySem.F.slot_list_append PySem.F.type_list_append mt_append (pv 1) (pa_cons pe_str pa_nil)))) pss_nil)
      (pss_cons (ps_if (pt_val (pe_callB (call_isH hh) (by rfl) T.isinstance (by decide +kernel) (pa_cons (pv 0) (pa_cons (pe_glob (v := .ref _) rfl X.aNoName rfl) pa_nil)))) (pss_one (ps_expr (pe_bm PySem.F.plainAttrs_list PySem.F.slot_list_append PySem.F.type_list_append mt_append (pv 1) (pa_cons pe_str pa_nil)))) pss_nil)
      (pss_cons (ps_if (pt_val (pe_callB (call_isH hh) (by rfl) T.isinstance (by decide +kernel) (pa_cons (pv 0) (pa_cons (pe_glob (v := .ref _) rfl X.aTakenName rfl) pa_nil)))) (pss_one (ps_expr (pe_bm PySem.F.plainAttrs_list PySem.F.slot_list_append PySem.F.type_list_append mt_append (pv 1) (pa_cons pe_str pa_nil)))) pss_nil)
      (pss_one (ps_ret (pe_op op_cat (pv 1) (pe_callE G hh hr1 rfl N1.1 N1.2.1 N1.2.2 (pa_cons (pv 0) pa_nil)))))))))))), ?_⟩
    walk_at "rd"
    refine rd_new (by decide) fun l hl => ?_
    simp only [errs, List.mem_cons, List.not_mem_nil, or_false, Prod.mk.injEq] at hm
    obtain ⟨rfl, rfl⟩ | ⟨rfl, rfl⟩ | ⟨rfl, rfl⟩ | ⟨rfl, rfl⟩ | ⟨rfl, rfl⟩ | ⟨rfl, rfl⟩ | ⟨rfl, rfl⟩ | ⟨rfl, rfl⟩ | ⟨rfl, rfl⟩ | ⟨rfl, rfl⟩ | ⟨rfl, rfl⟩ := hm
    · have R := X.rBadText
      walk_at "rd"
      simp only [upd_upd]
      refine ⟨"BadText", ["line", "word"], rfl, by simp [errs], rfl, (by walk_at "rd held"), fun p2 H2 n2 s2 e2 => ?_⟩
      have e1 := s2 _ _ upd_same
      walk_at "rd"
      intro q hq
      walk_at "rd"
      refine k q _ ((same_new hl).free (s2.free hq)) ((((same_new hl).trans s2).trans (same_new hq))) ?_
      rw [upd_same]
      exact congrArg (fun z => some (HO.lst z)) (by decide +kernel)
    · have R := X.rBadName
      walk_at "rd"
      simp only [upd_upd]
      refine ⟨"BadName", ["name"], rfl, by simp [errs], rfl, (by walk_at "rd held"), fun p2 H2 n2 s2 e2 => ?_⟩
      have e1 := s2 _ _ upd_same
      walk_at "rd"
      intro q hq
      walk_at "rd"
      refine k q _ ((same_new hl).free (s2.free hq)) ((((same_new hl).trans s2).trans (same_new hq))) ?_
      rw [upd_same]
      exact congrArg (fun z => some (HO.lst z)) (by decide +kernel)
    · have R := X.rBadNumber
      walk_at "rd"
      simp only [upd_upd]
      refine ⟨"BadNumber", ["what", "number"], rfl, by simp [errs], rfl, (by walk_at "rd held"), fun p2 H2 n2 s2 e2 => ?_⟩
      have e1 := s2 _ _ upd_same
      walk_at "rd"
      intro q hq
      walk_at "rd"
      refine k q _ ((same_new hl).free (s2.free hq)) ((((same_new hl).trans s2).trans (same_new hq))) ?_
      rw [upd_same]
      exact congrArg (fun z => some (HO.lst z)) (by decide +kernel)
    · have R := X.rBadRow
      walk_at "rd"
      simp only [upd_upd]
      refine ⟨"BadRow", ["what", "row"], rfl, by simp [errs], rfl, (by walk_at "rd held"), fun p2 H2 n2 s2 e2 => ?_⟩
      have e1 := s2 _ _ upd_same
      walk_at "rd"
      intro q hq
      walk_at "rd"
      refine k q _ ((same_new hl).free (s2.free hq)) ((((same_new hl).trans s2).trans (same_new hq))) ?_
      rw [upd_same]
      exact congrArg (fun z => some (HO.lst z)) (by decide +kernel)
    · have R := X.rNoName
      walk_at "rd"
      simp only [upd_upd]
      refine ⟨"NoName", ["name"], rfl, by simp [errs], rfl, (by walk_at "rd held"), fun p2 H2 n2 s2 e2 => ?_⟩
      have e1 := s2 _ _ upd_same
      walk_at "rd"
      intro q hq
      walk_at "rd"
      refine k q _ ((same_new hl).free (s2.free hq)) ((((same_new hl).trans s2).trans (same_new hq))) ?_
      rw [upd_same]
      exact congrArg (fun z => some (HO.lst z)) (by decide +kernel)
    · have R := X.rTakenName
      walk_at "rd"
      simp only [upd_upd]
      refine ⟨"TakenName", ["name"], rfl, by simp [errs], rfl, (by walk_at "rd held"), fun p2 H2 n2 s2 e2 => ?_⟩
      have e1 := s2 _ _ upd_same
      walk_at "rd"
      intro q hq
      walk_at "rd"
      refine k q _ ((same_new hl).free (s2.free hq)) ((((same_new hl).trans s2).trans (same_new hq))) ?_
      rw [upd_same]
      exact congrArg (fun z => some (HO.lst z)) (by decide +kernel)
    · have R := X.rUnlike
      walk_at "rd"
      simp only [upd_upd]
      refine ⟨"Unlike", ["what"], rfl, by simp [errs], rfl, (by walk_at "rd held"), fun p2 H2 n2 s2 e2 => ?_⟩
      have e1 := s2 _ _ upd_same
      walk_at "rd"
      intro q hq
      walk_at "rd"
      refine k q _ ((same_new hl).free (s2.free hq)) ((((same_new hl).trans s2).trans (same_new hq))) ?_
      rw [upd_same]
      exact congrArg (fun z => some (HO.lst z)) (by decide +kernel)
    · have R := X.rTooMany
      walk_at "rd"
      simp only [upd_upd]
      refine ⟨"TooMany", ["what", "many", "limit"], rfl, by simp [errs], rfl, (by walk_at "rd held"), fun p2 H2 n2 s2 e2 => ?_⟩
      have e1 := s2 _ _ upd_same
      walk_at "rd"
      intro q hq
      walk_at "rd"
      refine k q _ ((same_new hl).free (s2.free hq)) ((((same_new hl).trans s2).trans (same_new hq))) ?_
      rw [upd_same]
      exact congrArg (fun z => some (HO.lst z)) (by decide +kernel)
    · have R := X.rNotKept
      walk_at "rd"
      simp only [upd_upd]
      refine ⟨"NotKept", ["promise", "witness"], rfl, by simp [errs], rfl, (by walk_at "rd held"), fun p2 H2 n2 s2 e2 => ?_⟩
      have e1 := s2 _ _ upd_same
      walk_at "rd"
      intro q hq
      walk_at "rd"
      refine k q _ ((same_new hl).free (s2.free hq)) ((((same_new hl).trans s2).trans (same_new hq))) ?_
      rw [upd_same]
      exact congrArg (fun z => some (HO.lst z)) (by decide +kernel)
    · have R := X.rNothingToUndo
      walk_at "rd"
      simp only [upd_upd]
      refine ⟨"NothingToUndo", [], rfl, by simp [errs], rfl, (by walk_at "rd held"), fun p2 H2 n2 s2 e2 => ?_⟩
      have e1 := s2 _ _ upd_same
      walk_at "rd"
      intro q hq
      walk_at "rd"
      refine k q _ ((same_new hl).free (s2.free hq)) ((((same_new hl).trans s2).trans (same_new hq))) ?_
      rw [upd_same]
      exact congrArg (fun z => some (HO.lst z)) (by decide +kernel)
    · have R := X.rNothingToRedo
      walk_at "rd"
      simp only [upd_upd]
      refine ⟨"NothingToRedo", [], rfl, by simp [errs], rfl, (by walk_at "rd held"), fun p2 H2 n2 s2 e2 => ?_⟩
      have e1 := s2 _ _ upd_same
      walk_at "rd"
      intro q hq
      walk_at "rd"
      refine k q _ ((same_new hl).free (s2.free hq)) ((((same_new hl).trans s2).trans (same_new hq))) ?_
      rw [upd_same]
      exact congrArg (fun z => some (HO.lst z)) (by decide +kernel)
def spFields (K : PySem.W.Frag) (a : Addr) (c : Value) (d : Option Addr) : Sp := fun vs H Q _ => ∃ (i : Nat) (nm : Str) (fs : List Str) (x y z : V), vs = [.int i, .ref a] ∧ errs[i]? = some (nm, fs) ∧ c = .ref (He.ga K nm) ∧
  (fs = [] ∨ ∃ dd, d = some dd ∧ H dd = some (.xd (fs.zip [x, y, z]).reverse)) ∧ ∀ p H', H p = none → Same H H' → H' p = some (.lst ([x, y, z].take fs.length)) → Q (.ref p) H'
abbrev sG : Stmt := top 22
theorem scsG : FnScope ["kind", "e"] ["kind", "e"] (defScope sG) := ⟨rfl, rfl, rfl, by decide +kernel, rfl, by decide +kernel, by decide +kernel⟩
theorem oksG {f : Addr} {fd : FuncData} (F : Fun K "_law_fields" "_law_fields" sG f fd) (X : Er K mg) :
    FnE P w K mg base 1 f fd ["kind", "e"] (spFields K) := by
  refine okE F scsG (fun a c d vs H Q E h => ?_) (fun cdv A out s H vs Q p c d hh hr h => ?_)
  · obtain ⟨i, nm, fs, x, y, z, rfl, _⟩ := h; rfl
  · obtain ⟨i, nm, fs, x, y, z, rfl, he, rfl, hd, k⟩ := h
    refine ⟨_, (pss_cons (ps_if (pt_cmpR op_in_seq (pv 0) (pe_tup (pa_cons pe_int pa_nil)) (by with_unfolding_all rfl)) (pss_one (ps_ret (pe_lst (pa_cons (pe_xh hh (pv 1)) (pa_cons (pe_xh hh (pv 1)) pa_nil))))) pss_nil)
      (pss_cons (ps_if (pt_cmpR op_in_seq (pv 0) (pe_tup (pa_cons pe_int (pa_cons pe_int (pa_cons pe_int pa_nil)))) (by with_unfolding_all rfl)) (pss_one (ps_ret (pe_lst (pa_cons (pe_xh hh (pv 1)) pa_nil)))) pss_nil)
      (pss_cons (ps_if (pt_cmpR op_in_seq (pv 0) (pe_tup (pa_cons pe_int pa_nil)) (by with_unfolding_all rfl)) (pss_one (ps_ret (pe_lst (pa_cons (pe_xh hh (pv 1)) (pa_cons (pe_xh hh (pv 1)) pa_nil))))) pss_nil)
      (pss_cons (ps_if (pt_cmpR op_in_seq (pv 0) (pe_tup (pa_cons pe_int pa_nil)) (by with_unfolding_all rfl)) (pss_one (ps_ret (pe_lst (pa_cons (pe_xh hh (pv 1)) (pa_cons (pe_xh hh (pv 1)) pa_nil))))) pss_nil)
      (pss_cons (ps_if (pt_cmpR op_in_seq (pv 0) (pe_tup (pa_cons pe_int pa_nil)) (by with_unfolding_all rfl)) (pss_one (ps_ret (pe_lst (pa_cons (pe_xh hh (pv 1)) pa_nil)))) pss_nil)
      (pss_cons (ps_if (pt_cmpR op_in_seq (pv 0) (pe_tup (pa_cons pe_int pa_nil)) (by with_unfolding_all rfl)) (pss_one (ps_ret (pe_lst (pa_cons (pe_xh hh (pv 1)) (pa_cons (pe_xh hh (pv 1)) (pa_cons (pe_xh hh (pv 1)) pa_nil)))))) pss_nil)
      (pss_cons (ps_if (pt_cmpR op_in_seq (pv 0) (pe_tup (pa_cons pe_int pa_nil)) (by with_unfolding_all rfl)) (pss_one (ps_ret (pe_lst (pa_cons (pe_xh hh (pv 1)) (pa_cons (pe_xh hh (pv 1)) pa_nil))))) pss_nil)
      (pss_one (ps_ret (pe_lst pa_nil)))))))))), ?_⟩
    have hi := idx he
    have sq : ∀ {q : Str × List Str}, some q = some (nm, fs) → nm = q.1 ∧ fs = q.2 := fun e => by cases e; exact ⟨rfl, rfl⟩
    obtain rfl | hi0 : i = 0 ∨ i ≠ 0 := by omega
    · obtain ⟨rfl, rfl⟩ : nm = "BadText" ∧ fs = (["line", "word"] : List Str) := sq he
      have R := X.rBadText
      obtain hd | ⟨dd, rfl, g0⟩ := hd
      · cases hd
      walk_at "rd"
      refine rd_new (by decide) fun t0 h0 => ?_
      have s0 := same_new (o := .tup [.int 0]) h0
      have g1 := s0 _ _ g0
      walk_at "rd"
      have S := (s0)
      refine rd_new (by show 2 ≤ 1000; decide) fun q hq => ?_
      walk_at "rd"
      exact k q _ (S.free hq) (S.trans (same_new hq)) upd_same
    obtain rfl | hi1 : i = 1 ∨ i ≠ 1 := by omega
    · obtain ⟨rfl, rfl⟩ : nm = "BadName" ∧ fs = (["name"] : List Str) := sq he
      have R := X.rBadName
      obtain hd | ⟨dd, rfl, g0⟩ := hd
      · cases hd
      walk_at "rd"
      refine rd_new (by decide) fun t0 h0 => ?_
      have s0 := same_new (o := .tup [.int 0]) h0
      have g1 := s0 _ _ g0
      walk_at "rd"
      refine rd_new (by decide) fun t1 h1 => ?_
      have s1 := same_new (o := .tup [.int 1, .int 4, .int 5]) h1
      have g2 := s1 _ _ g1
      walk_at "rd"
      have S := ((s0).trans s1)
      refine rd_new (by show 1 ≤ 1000; decide) fun q hq => ?_
      walk_at "rd"
      exact k q _ (S.free hq) (S.trans (same_new hq)) upd_same
    obtain rfl | hi2 : i = 2 ∨ i ≠ 2 := by omega
    · obtain ⟨rfl, rfl⟩ : nm = "BadNumber" ∧ fs = (["what", "number"] : List Str) := sq he
      have R := X.rBadNumber
      obtain hd | ⟨dd, rfl, g0⟩ := hd
      · cases hd
      walk_at "rd"
      refine rd_new (by decide) fun t0 h0 => ?_
      have s0 := same_new (o := .tup [.int 0]) h0
      have g1 := s0 _ _ g0
      walk_at "rd"
      refine rd_new (by decide) fun t1 h1 => ?_
      have s1 := same_new (o := .tup [.int 1, .int 4, .int 5]) h1
      have g2 := s1 _ _ g1
      walk_at "rd"
      refine rd_new (by decide) fun t2 h2 => ?_
      have s2 := same_new (o := .tup [.int 2]) h2
      have g3 := s2 _ _ g2
      walk_at "rd"
      have S := (((s0).trans s1).trans s2)
      refine rd_new (by show 2 ≤ 1000; decide) fun q hq => ?_
      walk_at "rd"
      exact k q _ (S.free hq) (S.trans (same_new hq)) upd_same
    obtain rfl | hi3 : i = 3 ∨ i ≠ 3 := by omega
    · obtain ⟨rfl, rfl⟩ : nm = "BadRow" ∧ fs = (["what", "row"] : List Str) := sq he
      have R := X.rBadRow
      obtain hd | ⟨dd, rfl, g0⟩ := hd
      · cases hd
      walk_at "rd"
      refine rd_new (by decide) fun t0 h0 => ?_
      have s0 := same_new (o := .tup [.int 0]) h0
      have g1 := s0 _ _ g0
      walk_at "rd"
      refine rd_new (by decide) fun t1 h1 => ?_
      have s1 := same_new (o := .tup [.int 1, .int 4, .int 5]) h1
      have g2 := s1 _ _ g1
      walk_at "rd"
      refine rd_new (by decide) fun t2 h2 => ?_
      have s2 := same_new (o := .tup [.int 2]) h2
      have g3 := s2 _ _ g2
      walk_at "rd"
      refine rd_new (by decide) fun t3 h3 => ?_
      have s3 := same_new (o := .tup [.int 3]) h3
      have g4 := s3 _ _ g3
      walk_at "rd"
      have S := ((((s0).trans s1).trans s2).trans s3)
      refine rd_new (by show 2 ≤ 1000; decide) fun q hq => ?_
      walk_at "rd"
      exact k q _ (S.free hq) (S.trans (same_new hq)) upd_same
    obtain rfl | hi4 : i = 4 ∨ i ≠ 4 := by omega
    · obtain ⟨rfl, rfl⟩ : nm = "NoName" ∧ fs = (["name"] : List Str) := sq he
      have R := X.rNoName
      obtain hd | ⟨dd, rfl, g0⟩ := hd
      · cases hd
      walk_at "rd"
      refine rd_new (by decide) fun t0 h0 => ?_
      have s0 := same_new (o := .tup [.int 0]) h0
      have g1 := s0 _ _ g0
      walk_at "rd"
      refine rd_new (by decide) fun t1 h1 => ?_
      have s1 := same_new (o := .tup [.int 1, .int 4, .int 5]) h1
      have g2 := s1 _ _ g1
      walk_at "rd"
      have S := ((s0).trans s1)
      refine rd_new (by show 1 ≤ 1000; decide) fun q hq => ?_
      walk_at "rd"
      exact k q _ (S.free hq) (S.trans (same_new hq)) upd_same
    obtain rfl | hi5 : i = 5 ∨ i ≠ 5 := by omega
    · obtain ⟨rfl, rfl⟩ : nm = "TakenName" ∧ fs = (["name"] : List Str) := sq he
      have R := X.rTakenName
      obtain hd | ⟨dd, rfl, g0⟩ := hd
      · cases hd
      walk_at "rd"
      refine rd_new (by decide) fun t0 h0 => ?_
      have s0 := same_new (o := .tup [.int 0]) h0
      have g1 := s0 _ _ g0
      walk_at "rd"
      refine rd_new (by decide) fun t1 h1 => ?_
      have s1 := same_new (o := .tup [.int 1, .int 4, .int 5]) h1
      have g2 := s1 _ _ g1
      walk_at "rd"
      have S := ((s0).trans s1)
      refine rd_new (by show 1 ≤ 1000; decide) fun q hq => ?_
      walk_at "rd"
      exact k q _ (S.free hq) (S.trans (same_new hq)) upd_same
    obtain rfl | hi6 : i = 6 ∨ i ≠ 6 := by omega
    · obtain ⟨rfl, rfl⟩ : nm = "Unlike" ∧ fs = (["what"] : List Str) := sq he
      have R := X.rUnlike
      obtain hd | ⟨dd, rfl, g0⟩ := hd
      · cases hd
      walk_at "rd"
      refine rd_new (by decide) fun t0 h0 => ?_
      have s0 := same_new (o := .tup [.int 0]) h0
      have g1 := s0 _ _ g0
      walk_at "rd"
      refine rd_new (by decide) fun t1 h1 => ?_
      have s1 := same_new (o := .tup [.int 1, .int 4, .int 5]) h1
      have g2 := s1 _ _ g1
      walk_at "rd"
      refine rd_new (by decide) fun t2 h2 => ?_
      have s2 := same_new (o := .tup [.int 2]) h2
      have g3 := s2 _ _ g2
      walk_at "rd"
      refine rd_new (by decide) fun t3 h3 => ?_
      have s3 := same_new (o := .tup [.int 3]) h3
      have g4 := s3 _ _ g3
      walk_at "rd"
      refine rd_new (by decide) fun t4 h4 => ?_
      have s4 := same_new (o := .tup [.int 6]) h4
      have g5 := s4 _ _ g4
      walk_at "rd"
      have S := (((((s0).trans s1).trans s2).trans s3).trans s4)
      refine rd_new (by show 1 ≤ 1000; decide) fun q hq => ?_
      walk_at "rd"
      exact k q _ (S.free hq) (S.trans (same_new hq)) upd_same
    obtain rfl | hi7 : i = 7 ∨ i ≠ 7 := by omega
    · obtain ⟨rfl, rfl⟩ : nm = "TooMany" ∧ fs = (["what", "many", "limit"] : List Str) := sq he
      have R := X.rTooMany
      obtain hd | ⟨dd, rfl, g0⟩ := hd
      · cases hd
      walk_at "rd"
      refine rd_new (by decide) fun t0 h0 => ?_
      have s0 := same_new (o := .tup [.int 0]) h0
      have g1 := s0 _ _ g0
      walk_at "rd"
      refine rd_new (by decide) fun t1 h1 => ?_
      have s1 := same_new (o := .tup [.int 1, .int 4, .int 5]) h1
      have g2 := s1 _ _ g1
      walk_at "rd"
      refine rd_new (by decide) fun t2 h2 => ?_
      have s2 := same_new (o := .tup [.int 2]) h2
      have g3 := s2 _ _ g2
      walk_at "rd"
      refine rd_new (by decide) fun t3 h3 => ?_
      have s3 := same_new (o := .tup [.int 3]) h3
      have g4 := s3 _ _ g3
      walk_at "rd"
      refine rd_new (by decide) fun t4 h4 => ?_
      have s4 := same_new (o := .tup [.int 6]) h4
      have g5 := s4 _ _ g4
      walk_at "rd"
      refine rd_new (by decide) fun t5 h5 => ?_
      have s5 := same_new (o := .tup [.int 7]) h5
      have g6 := s5 _ _ g5
      walk_at "rd"
      have S := ((((((s0).trans s1).trans s2).trans s3).trans s4).trans s5)
      refine rd_new (by show 3 ≤ 1000; decide) fun q hq => ?_
      walk_at "rd"
      exact k q _ (S.free hq) (S.trans (same_new hq)) upd_same
    obtain rfl | hi8 : i = 8 ∨ i ≠ 8 := by omega
    · obtain ⟨rfl, rfl⟩ : nm = "NotKept" ∧ fs = (["promise", "witness"] : List Str) := sq he
      have R := X.rNotKept
      obtain hd | ⟨dd, rfl, g0⟩ := hd
      · cases hd
      walk_at "rd"
      refine rd_new (by decide) fun t0 h0 => ?_
      have s0 := same_new (o := .tup [.int 0]) h0
      have g1 := s0 _ _ g0
      walk_at "rd"
      refine rd_new (by decide) fun t1 h1 => ?_
      have s1 := same_new (o := .tup [.int 1, .int 4, .int 5]) h1
      have g2 := s1 _ _ g1
      walk_at "rd"
      refine rd_new (by decide) fun t2 h2 => ?_
      have s2 := same_new (o := .tup [.int 2]) h2
      have g3 := s2 _ _ g2
      walk_at "rd"
      refine rd_new (by decide) fun t3 h3 => ?_
      have s3 := same_new (o := .tup [.int 3]) h3
      have g4 := s3 _ _ g3
      walk_at "rd"
      refine rd_new (by decide) fun t4 h4 => ?_
      have s4 := same_new (o := .tup [.int 6]) h4
      have g5 := s4 _ _ g4
      walk_at "rd"
      refine rd_new (by decide) fun t5 h5 => ?_
      have s5 := same_new (o := .tup [.int 7]) h5
      have g6 := s5 _ _ g5
      walk_at "rd"
      refine rd_new (by decide) fun t6 h6 => ?_
      have s6 := same_new (o := .tup [.int 8]) h6
      have g7 := s6 _ _ g6
      walk_at "rd"
      have S := (((((((s0).trans s1).trans s2).trans s3).trans s4).trans s5).trans s6)
      refine rd_new (by show 2 ≤ 1000; decide) fun q hq => ?_
      walk_at "rd"
      exact k q _ (S.free hq) (S.trans (same_new hq)) upd_same
    obtain rfl | hi9 : i = 9 ∨ i ≠ 9 := by omega
    · obtain ⟨rfl, rfl⟩ : nm = "NothingToUndo" ∧ fs = ([] : List Str) := sq he
      have R := X.rNothingToUndo
      walk_at "rd"
      refine rd_new (by decide) fun t0 h0 => ?_
      have s0 := same_new (o := .tup [.int 0]) h0
      walk_at "rd"
      refine rd_new (by decide) fun t1 h1 => ?_
      have s1 := same_new (o := .tup [.int 1, .int 4, .int 5]) h1
      walk_at "rd"
      refine rd_new (by decide) fun t2 h2 => ?_
      have s2 := same_new (o := .tup [.int 2]) h2
      walk_at "rd"
      refine rd_new (by decide) fun t3 h3 => ?_
      have s3 := same_new (o := .tup [.int 3]) h3
      walk_at "rd"
      refine rd_new (by decide) fun t4 h4 => ?_
      have s4 := same_new (o := .tup [.int 6]) h4
      walk_at "rd"
      refine rd_new (by decide) fun t5 h5 => ?_
      have s5 := same_new (o := .tup [.int 7]) h5
      walk_at "rd"
      refine rd_new (by decide) fun t6 h6 => ?_
      have s6 := same_new (o := .tup [.int 8]) h6
      walk_at "rd"
      have S := (((((((s0).trans s1).trans s2).trans s3).trans s4).trans s5).trans s6)
      refine rd_new (by show 0 ≤ 1000; decide) fun q hq => ?_
      walk_at "rd"
      exact k q _ (S.free hq) (S.trans (same_new hq)) upd_same
    obtain rfl | hi10 : i = 10 ∨ i ≠ 10 := by omega
    · obtain ⟨rfl, rfl⟩ : nm = "NothingToRedo" ∧ fs = ([] : List Str) := sq he
      have R := X.rNothingToRedo
      walk_at "rd"
      refine rd_new (by decide) fun t0 h0 => ?_
      have s0 := same_new (o := .tup [.int 0]) h0
      walk_at "rd"
      refine rd_new (by decide) fun t1 h1 => ?_
      have s1 := same_new (o := .tup [.int 1, .int 4, .int 5]) h1
      walk_at "rd"
      refine rd_new (by decide) fun t2 h2 => ?_
      have s2 := same_new (o := .tup [.int 2]) h2
      walk_at "rd"
      refine rd_new (by decide) fun t3 h3 => ?_
      have s3 := same_new (o := .tup [.int 3]) h3
      walk_at "rd"
      refine rd_new (by decide) fun t4 h4 => ?_
      have s4 := same_new (o := .tup [.int 6]) h4
      walk_at "rd"
      refine rd_new (by decide) fun t5 h5 => ?_
      have s5 := same_new (o := .tup [.int 7]) h5
      walk_at "rd"
      refine rd_new (by decide) fun t6 h6 => ?_
      have s6 := same_new (o := .tup [.int 8]) h6
      walk_at "rd"
      have S := (((((((s0).trans s1).trans s2).trans s3).trans s4).trans s5).trans s6)
      refine rd_new (by show 0 ≤ 1000; decide) fun q hq => ?_
      walk_at "rd"
      exact k q _ (S.free hq) (S.trans (same_new hq)) upd_same
    omega
end
end Lw

set_option Elab.async false
set_option linter.all false
set_option maxRecDepth 100000
set_option maxHeartbeats 8000000
namespace Lw
open PySem PySem.Spec PyProof.Rows L2 Fk
local macro_rules | `(tactic| walk_at "rd at") => `(tactic| first | assumption | exact upd_same | exact (upd_ne (by assumption)).trans (by walk_at "rd at"))
local macro_rules | `(tactic| walk_at "rd dget") => `(tactic| first | exact g_cells (by walk_at "rd at") | exact g_at (by walk_at "rd at") | exact g_digits (by walk_at "rd at") | exact g_count (by walk_at "rd at") | exact g_fold (by walk_at "rd at"))
local macro_rules | `(tactic| walk_at "rd dput") => `(tactic| first | exact p_at (by walk_at "rd at") | exact p_digits (by walk_at "rd at") | exact p_count (by walk_at "rd at") | exact p_fold (by walk_at "rd at"))
local macro_rules | `(tactic| walk_at "rd seq") => `(tactic| first | exact .inl (SqL.of (by walk_at "rd at")) | exact .inr (SqT.of (by walk_at "rd at")) | exact .inl (by assumption) | exact .inr (by assumption))
local macro_rules | `(tactic| walk_at "rd cond") => `(tactic| first | decide | assumption | (show (0 : Int) < _; omega) | (refine And.intro ?_ ?_ <;> omega) | (refine Or.inr ?_; refine And.intro ?_ ?_ <;> decide) | (refine Or.inl ?_; refine And.intro ?_ ?_ <;> omega) | (refine Or.inr ?_; refine And.intro ?_ ?_ <;> omega))
local macro_rules | `(tactic| walk_at "rd held") => `(tactic| first | assumption | exact held_upd (by walk_at "rd held") (by walk_at "rd at") | exact held_new (by walk_at "rd held") (by assumption))
local macro_rules | `(tactic| walk_at "rd mem") => `(tactic| first | decide | assumption | (simp; done))
local macro_rules | `(tactic| walk_at "rd look") => `(tactic| first | rfl | assumption)
local macro_rules | `(tactic| walk_at "rd small") => `(tactic| first | decide | (simp only [List.length_append, List.length_cons, List.length_nil]; omega))
local macro_rules | `(tactic| walk_at "rd seqL") => `(tactic| first | exact SqL.of (by walk_at "rd at") | assumption)
local macro_rules | `(tactic| walk_at "rd item") => `(tactic| first | rfl | assumption)
local macro_rules | `(tactic| walk_at "rd known") => `(tactic| first | assumption | decide +kernel)
local macro_rules | `(tactic| walk_at "rd bool") => `(tactic| first | assumption | rfl)
local macro_rules | `(tactic| walk_at "rd") => `(tactic| (repeat (first
  | ((with_reducible apply rd_var); (exact rfl))
  | with_reducible refine rd_seq ?_ | with_reducible refine rd_asg ?_ | with_reducible refine rd_ret ?_ | with_reducible refine rd_retN ?_
  | with_reducible refine rd_drop ?_ | with_reducible refine rd_next ?_ | with_reducible refine rd_ifs ?_
  | with_reducible refine rd_test ?_ | with_reducible refine rd_tB ?_ | with_reducible refine rd_bl ?_ | with_reducible refine rd_and ?_
  | with_reducible refine rd_or ?_ | with_reducible refine rd_not ?_ | with_reducible refine rd_andV ?_ | with_reducible refine rd_orV ?_ | with_reducible refine rd_notV ?_
  | with_reducible refine rd_c ?_ | with_reducible refine rd_op ?_ | with_reducible refine rd_un ?_ | with_reducible refine rd_rI0 ?_ | with_reducible refine rd_rU ?_
  | with_reducible refine rd_cb ?_ | with_reducible refine rd_cons ?_ | with_reducible refine rd_nil ?_
  | with_reducible refine rd_gname ?_ | with_reducible refine rd_eqI ?_ | with_reducible refine rd_neI ?_ | with_reducible refine rd_int1 ?_
  | with_reducible refine rd_dgetS ?_ | with_reducible refine rd_dput ?_ | with_reducible refine rd_call ?_ | with_reducible refine rd_callS ?_ | with_reducible refine rd_lst ?_ | with_reducible refine rd_tup ?_
  | with_reducible refine rd_vei ?_ | with_reducible refine rd_ost ?_ | with_reducible refine rd_mko ?_
  | with_reducible refine rd_pcons ?_ | with_reducible refine rd_pnil ?_
  | with_reducible refine rd_ifT ?_ | with_reducible refine rd_ifF ?_
  | ((with_reducible apply rd_dget); (walk_at "rd dget"))
  | ((with_reducible apply rd_len); (walk_at "rd seq"))
  | ((with_reducible apply rd_dputE); (walk_at "rd dput"))
  | ((with_reducible apply rd_rI); (walk_at "rd cond"))
  | ((with_reducible show rIsH _ _ _ _ _ _ _); (apply rd_isH); (assumption); (walk_at "rd mem"); (walk_at "rd held")) | ((with_reducible show rIsH _ _ _ _ _ _ _); (apply rd_isVE); (assumption); (walk_at "rd held"))
  | with_reducible refine rd_xhS ?_ | with_reducible refine rd_bm ?_ | with_reducible refine rd_bm0 ?_
  | ((with_reducible show V.ref _ = V.ref _ ∧ _); (apply rd_xh); (assumption); (walk_at "rd mem"); (rfl); (walk_at "rd at"); (walk_at "rd look"))
  | ((with_reducible apply rd_tyL); (walk_at "rd at"))
  | ((with_reducible apply rd_append); (walk_at "rd at"); (walk_at "rd small"))
  | ((with_reducible apply rd_cat); (walk_at "rd at"); (walk_at "rd at"); (walk_at "rd small"))
  | ((with_reducible apply rd_in); (walk_at "rd seq"); (rfl); (rfl))
  | ((with_reducible apply rd_ixL); (walk_at "rd seqL"); (walk_at "rd item"))
  | ((with_reducible apply rd_ifDT); (walk_at "rd known")) | ((with_reducible apply rd_ifDF); (walk_at "rd known"))
  | ((with_reducible apply rd_ifNT); (walk_at "rd known")) | ((with_reducible apply rd_ifNF); (walk_at "rd known"))
  | ((with_reducible apply rd_ifET); (walk_at "rd bool")) | ((with_reducible apply rd_ifEF); (walk_at "rd bool"))
  | walk_at "rd own")))

/-! ### _law_value: what it gives is data that repr tells -/
inductive Good (m : Nat) (H : Hp) : V → Prop
  | non : Good m H .non
  | bl (b : Bool) : Good m H (.bl b)
  | int (i : Int) (h : i.natAbs.log2 < 1920) : Good m H (.int i)
  | str (x : Str) (h : (reprText x).length ≤ 100) : Good m H (.str x)
  | lst {a l : Addr} {n : Int} {k : Nat} (h : H a = some (.lst ([V.int n, V.ref l] ++ List.replicate k (V.str "later")))) (hl : H l = some (.lst [])) (hn : n.natAbs < 2 ^ 30) (hk : k ≤ m) : Good m H (.ref a)
  | tup {a b : Addr} {n : Int} (h : H a = some (.tup [.str "a", .ref b])) (hb : H b = some (.tup [.int n])) (hn : n.natAbs < 2 ^ 30) : Good m H (.ref a)
  | dic {a : Addr} (h : H a = some (.dK [(.inr "k", .int 1)])) : Good m H (.ref a)
theorem Good.keep {m : Nat} {H H' : Hp} {v : V} (k : ∀ b o, H b = some o → (∀ kvs, o = .dK kvs → kvs.length ≠ 5) → H' b = some o) (g : Good m H v) : Good m H' v := by
  cases g with
  | non => exact .non
  | bl b => exact .bl b
  | int i h => exact .int i h
  | str x h => exact .str x h
  | lst h hl hn hk => exact .lst (k _ _ h fun _ z => nomatch z) (k _ _ hl fun _ z => nomatch z) hn hk
  | tup h hb hn => exact .tup (k _ _ h fun _ z => nomatch z) (k _ _ hb fun _ z => nomatch z) hn
  | dic h => exact .dic (k _ _ h fun _ z => by cases z; decide)
theorem Good.same {m : Nat} {H H' : Hp} {v : V} (s : Same H H') (g : Good m H v) : Good m H' v := g.keep fun b o e _ => s b o e
theorem Good.but {m : Nat} {H H' : Hp} {v : V} {p : Addr} (hp : PenAt H p) (s : But p H H') (g : Good m H v) : Good m H' v := g.keep fun b o e n => s.at hp e n
def spVal : Sp := fun vs H Q _ => ∃ p : Addr, vs = [.ref p] ∧ PenAt H p ∧ ∀ (v : V) (H' : Hp), Good 0 H' v → PenAt H' p → But p H H' → Q v H'
abbrev sVal : Stmt := top 17
theorem scVal : FnScope ["pen", "way"] ["pen"] (defScope sVal) := ⟨rfl, rfl, rfl, by decide +kernel, rfl, by decide +kernel, by decide +kernel⟩
section
variable {P : Program} {w : World} {K : PySem.W.Frag} {mg : Str → Option Value} {base : Heap}
theorem ok_val {f f1 f2 : Addr} {fd fd1 fd2 : FuncData} (F : Fun K "_law_value" "_law_value" sVal f fd)
    (G1 : FnOk P w K mg base CX0 1 f1 fd1 ["pen", "many"] spDraw) (N1 : At K mg "_law_draw" f1 fd1 ["pen", "many"])
    (G2 : FnOk P w K mg base CX0 2 f2 fd2 ["pen", "some"] (spPick K)) (N2 : At K mg "_law_pick" f2 fd2 ["pen", "some"]) :
    FnOk P w K mg base CX0 3 f fd ["pen"] spVal := by
  refine F.ok scVal (fun vs H Q E h => ?_) (fun cdv A outer s H vs Q E hr h => ?_)
  · obtain ⟨p, rfl, _⟩ := h; rfl
  · obtain ⟨p, rfl, hp, k⟩ := h
    have hr1 : Room 1 _ := hr.mono (by decide)
    have hr2 : Room 2 _ := hr
    refine ⟨_, (pss_cons (ps_set (i := 1) scVal.nd rfl (Or.inl rfl) (pe_call G1 hr1 rfl N1.1 N1.2.1 N1.2.2 .nil pass0 (pa_cons (pv 0) (pa_cons pe_int pa_nil))))
      (pss_cons (ps_if (pt_cmpR op_eq (pv 1) pe_int (nomark _)) (pss_one (ps_ret (pe_lst (pa_cons (pe_call G1 hr1 rfl N1.1 N1.2.1 N1.2.2 .nil pass0 (pa_cons (pv 0) (pa_cons pe_int pa_nil))) (pa_cons (pe_lst pa_nil) pa_nil))))) pss_nil)
      (pss_cons (ps_if (pt_cmpR op_eq (pv 1) pe_int (nomark _)) (pss_one (ps_ret (pe_tup (pa_cons pe_str (pa_cons (pe_tup (pa_cons (pe_call G1 hr1 rfl N1.1 N1.2.1 N1.2.2 .nil pass0 (pa_cons (pv 0) (pa_cons (pe_op op_pow pe_int pe_int) pa_nil))) pa_nil)) pa_nil))))) pss_nil)
      (pss_one (ps_ret (pe_call G2 hr2 rfl N2.1 N2.2.1 N2.2.2 .nil pass0 (pa_cons (pv 0) (pa_cons (pe_lst (pa_cons pe_non (pa_cons pe_bl (pa_cons pe_bl (pa_cons pe_int (pa_cons (pe_un un_neg pe_int) (pa_cons pe_str (pa_cons pe_str (pa_cons (pe_op op_pow pe_int pe_int) (pa_cons (pe_disp (pps_cons pe_str pe_int pps_nil) (by rfl) (by rfl) (fun z => by cases z) (by decide)) pa_nil)))))))))) pa_nil)))))))), ?_⟩
    walk_at "rd"
    refine ⟨p, 8, rfl, hp, by decide, by decide, fun r H1 r0 r1 hp1 b1 => ?_⟩
    walk_at "rd"
    refine @rd_if _ _ _ _ (fun e => ?_) (fun e => ?_)
    · walk_at "rd"
      refine ⟨p, 100, rfl, hp1, by decide, by decide, fun n H2 n0 n1 hp2 b2 => ?_⟩
      walk_at "rd"
      refine rd_new (by decide) fun l hl => ?_
      walk_at "rd"
      refine rd_new (by show 2 ≤ 1000; decide) fun a ha => ?_
      walk_at "rd"
      have s2 := (same_new (o := .lst []) hl).trans (same_new (o := .lst [.int n, .ref l]) ha)
      exact k _ _ (.lst (k := 0) upd_same ((same_new ha) _ _ upd_same) (by omega) (Nat.le_refl _)) (hp2.keep s2) ((b1.trans b2).trans (But.of s2))
    · walk_at "rd"
      refine @rd_if _ _ _ _ (fun e => ?_) (fun e => ?_)
      · walk_at "rd"
        refine ⟨p, _, rfl, hp1, by decide, by decide, fun n H2 n0 n1 hp2 b2 => ?_⟩
        walk_at "rd"
        refine rd_new (by show 1 ≤ 1000; decide) fun l hl => ?_
        walk_at "rd"
        refine rd_new (by show 2 ≤ 1000; decide) fun a ha => ?_
        walk_at "rd"
        have s2 := (same_new (o := .tup [.int n]) hl).trans (same_new (o := .tup [.str "a", .ref l]) ha)
        have n2 : n < 1000000 := n1
        exact k _ _ (.tup upd_same ((same_new ha) _ _ upd_same) (by omega)) (hp2.keep s2) ((b1.trans b2).trans (But.of s2))
      · walk_at "rd"
        refine rd_disp fun t ht => ?_
        walk_at "rd"
        refine ⟨upd_same, [(.inr "k", .int 1)], rfl, by decide, ?_⟩
        rw [merge_nil (by simp), upd_upd]
        walk_at "rd"
        refine rd_new (by show 9 ≤ 1000; decide) fun z hz => ?_
        walk_at "rd"
        have st := same_new (o := .dK [((.inr "k" : Key), V.int 1)]) ht
        have sz := same_new (o := .lst [V.non, V.bl true, V.bl false, V.int 0, V.int (-1), V.str "x", V.str "", V.int (10 ^ Int.toNat 40), V.ref t]) hz
        have s2 := st.trans sz
        refine ⟨p, z, _, rfl, hp1.keep s2, SqL.of upd_same, by show 0 < 9; decide, by show (9 : Nat) < 1073741824; decide, fun j x H3 hx hp3 b3 => ?_⟩
        refine k x H3 ?_ hp3 ((b1.trans (But.of s2)).trans b3)
        refine Good.but (hp1.keep s2) b3 ?_
        have hm := List.mem_of_getElem? hx
        simp only [List.mem_cons, List.not_mem_nil, or_false] at hm
        obtain rfl | rfl | rfl | rfl | rfl | rfl | rfl | rfl | rfl := hm
        · exact .non
        · exact .bl _
        · exact .bl _
        · exact .int _ (by decide +kernel)
        · exact .int _ (by decide +kernel)
        · exact .str _ (by decide +kernel)
        · exact .str _ (by decide +kernel)
        · exact .int _ (by decide +kernel)
        · exact .dic (sz _ _ upd_same)
/-! ### _law_one -/
abbrev sOne : Stmt := top 23
theorem scOne : FnScope ["kind", "one", "two", "three", "found", "e"] ["kind", "one", "two", "three"] (defScope sOne) := ⟨rfl, rfl, rfl, by decide +kernel, rfl, by decide +kernel, by decide +kernel⟩
def tsOne (K : PySem.W.Frag) : Addr → Value → Option Addr → TS := fun a c d =>
  tIfS (tB (tCB (rIsH K a c d) (tCons (tVar 5) (tCons (tC (.ty "ValueError")) tNil))))
    (tAsg (tTup (tCons (tCall (spKinds K ["BadText", "BadName", "BadNumber", "BadRow", "NoName", "TakenName", "Unlike", "TooMany", "NotKept", "NothingToUndo", "NothingToRedo"] a c d) [] E0 (tCons (tVar 5) tNil)) (tCons (tCall (spFields K a c d) [] E0 (tCons (tVar 0) (tCons (tVar 5) tNil))) tNil))) (gName 4)) tNext
def spOne : Sp := fun vs H Q _ => ∃ (i : Nat) (nm : Str) (fs : List Str) (x y z : V), vs = [.int i, x, y, z] ∧ errs[i]? = some (nm, fs) ∧
  ∀ p q r H', H r = none → Same H H' → H' p = some (.tup [.ref q, .ref r]) → H' q = some (.lst [.str nm]) → H' r = some (.lst ([x, y, z].take fs.length)) → Q (.ref p) H'
theorem kinds1 : ∀ q ∈ errs, ((["BadText", "BadName", "BadNumber", "BadRow", "NoName", "TakenName", "Unlike", "TooMany", "NotKept", "NothingToUndo", "NothingToRedo"] : List Str).filter fun z => decide (q.1 = z)).map V.str = [V.str q.1] := by decide +kernel
theorem ok_one {f f1 f2 f3 : Addr} {fd fd1 fd2 fd3 : FuncData} (F : Fun K "_law_one" "_law_one" sOne f fd) (X : Er K mg) (T : Bi mg)
    (G1 : FnOk P w K mg base (L2.CX P w) 4 f1 fd1 ["kind", "one", "two", "three"] (spFall K)) (N1 : At K mg "_law_fall" f1 fd1 ["kind", "one", "two", "three"])
    (G2 : FnE P w K mg base 2 f2 fd2 ["e"] (spKinds K ["BadText", "BadName", "BadNumber", "BadRow", "NoName", "TakenName", "Unlike", "TooMany", "NotKept", "NothingToUndo", "NothingToRedo"])) (N2 : At K mg "_law_classes" f2 fd2 ["e"])
    (G3 : FnE P w K mg base 1 f3 fd3 ["kind", "e"] (spFields K)) (N3 : At K mg "_law_fields" f3 fd3 ["kind", "e"]) :
    FnOk P w K mg base CX0 5 f fd ["kind", "one", "two", "three"] spOne := by
  refine F.ok scOne (fun vs H Q E h => ?_) (fun cdv A outer s H vs Q E hr h => ?_)
  · obtain ⟨i, nm, fs, x, y, z, rfl, _⟩ := h; rfl
  · obtain ⟨i, nm, fs, x, y, z, rfl, he, k⟩ := h
    refine ⟨_, (pss_cons (ps_set (i := 4) scOne.nd rfl (Or.inl rfl) pe_non)
      (pss_cons (ps_try_as (i := 5) (tb := fun W => tDrop (tCallS (spFall K) (WE W) (tCons (tVar 0) (tCons (tVar 1) (tCons (tVar 2) (tCons (tVar 3) tNil)))))) (ts := tsOne K) (Wout := fun _ _ _ _ => False)
          rfl rfl scOne.nd rfl rfl ⟨rfl, by decide, Or.inl X.gB⟩ takes0
          (fun W pn xe tk _ => pss_one (ps_expr (by exact (pe_callS G1 hr rfl N1.1 N1.2.1 N1.2.2 (fun σ => passAt tk σ) (by exact (pa_cons (pv 0) (pa_cons (pv 1) (pa_cons (pv 2) (pa_cons (pv 3) pa_nil)))))))))
          (fun a oe cls d pn hz hf => pss_one (ps_if (pt_val (pe_callB (call_isH (Held.suite hz hf)) (by rfl) T.isinstance (by decide +kernel) (pa_cons (pv 5) (pa_cons (pe_bltn (v := .ty "ValueError") rfl T.ve PyProof.Rows.Boot.«ValueError» rfl) pa_nil))))
            (pss_one (ps_set (i := 4) scOne.nd rfl (Or.inl rfl) (pe_tup (pa_cons (pe_callE G2 (Held.suite hz hf) ⟨(hr.mono (by decide : 2 ≤ 4)).dp, (hr.mono (by decide : 2 ≤ 4)).un⟩ rfl N2.1 N2.2.1 N2.2.2 (pa_cons (pv 5) pa_nil))
              (pa_cons (pe_callE G3 (Held.suite hz hf) ⟨(hr.mono (by decide : 1 ≤ 4)).dp, (hr.mono (by decide : 1 ≤ 4)).un⟩ rfl N3.1 N3.2.1 N3.2.2 (pa_cons (pv 0) (pa_cons (pv 5) pa_nil))) pa_nil))))) pss_nil)))
      (pss_one (ps_ret (pv 4))))), ?_⟩
    walk_at "rd"
    refine ⟨i, nm, fs, x, y, z, rfl, he, fun cls d H1 r => ?_⟩
    obtain ⟨rfl, sm, fl⟩ := r
    have hm := List.mem_of_getElem? he
    have R : ErC K ys nm fs := X.cls _ hm
    refine ⟨true, R.up, fun _ a na => ?_, fun q => nomatch q⟩
    have hd : d = none ∨ ∃ dd gs, d = some dd ∧ H1 dd = some (.xd gs) := fl.imp (·.2) fun ⟨dd, e, z⟩ => ⟨dd, _, e, z⟩
    have hfl : fs = [] ∨ ∃ dd, d = some dd ∧ H1 dd = some (.xd (fs.zip [x, y, z]).reverse) := by
      rcases fl with ⟨e, _⟩ | q
      · left
        have e2 := List.reverse_eq_nil_iff.mp e
        cases fs with
        | nil => rfl
        | cons a l => simp at e2
      · exact .inr q
    refine rd_ifs ?_
    walk_at "rd"
    refine ⟨nm, fs, rfl, hm, rfl, hd, fun q H2 n2 s2 e2 => ?_⟩
    rw [kinds1 _ hm] at e2
    walk_at "rd"
    refine ⟨i, nm, fs, x, y, z, rfl, he, rfl, hfl.imp id fun ⟨dd, e, z⟩ => ⟨dd, e, s2 _ _ z⟩, fun r H3 n3 s3 e3 => ?_⟩
    walk_at "rd"
    refine rd_new (by show 2 ≤ 1000; decide) fun p hp => ?_
    walk_at "rd"
    have s4 := same_new (o := .tup [.ref q, .ref r]) hp
    exact k p q r _ ((sm.trans s2).free n3) (((sm.trans s2).trans s3).trans s4) upd_same (s4 _ _ (s3 _ _ e2)) (s4 _ _ e3)
end
end Lw

set_option Elab.async false
set_option linter.all false
set_option maxRecDepth 100000
set_option maxHeartbeats 8000000
namespace Lw
open PySem PySem.Spec PyProof.Rows L2 Fk
local macro_rules | `(tactic| walk_at "rd at") => `(tactic| first | assumption | exact upd_same | exact (upd_ne (by assumption)).trans (by walk_at "rd at"))
local macro_rules | `(tactic| walk_at "rd dget") => `(tactic| first | exact g_cells (by walk_at "rd at") | exact g_at (by walk_at "rd at") | exact g_digits (by walk_at "rd at") | exact g_count (by walk_at "rd at") | exact g_fold (by walk_at "rd at"))
local macro_rules | `(tactic| walk_at "rd dput") => `(tactic| first | exact p_at (by walk_at "rd at") | exact p_digits (by walk_at "rd at") | exact p_count (by walk_at "rd at") | exact p_fold (by walk_at "rd at"))
local macro_rules | `(tactic| walk_at "rd seq") => `(tactic| first | exact .inl (SqL.of (by walk_at "rd at")) | exact .inr (SqT.of (by walk_at "rd at")) | exact .inl (by assumption) | exact .inr (by assumption))
local macro_rules | `(tactic| walk_at "rd cond") => `(tactic| first | decide | assumption | (show (0 : Int) < _; omega) | (refine And.intro ?_ ?_ <;> omega) | (refine Or.inr ?_; refine And.intro ?_ ?_ <;> decide) | (refine Or.inl ?_; refine And.intro ?_ ?_ <;> omega) | (refine Or.inr ?_; refine And.intro ?_ ?_ <;> omega))
local macro_rules | `(tactic| walk_at "rd held") => `(tactic| first | assumption | exact held_upd (by walk_at "rd held") (by walk_at "rd at") | exact held_new (by walk_at "rd held") (by assumption))
local macro_rules | `(tactic| walk_at "rd mem") => `(tactic| first | decide | assumption | (simp; done))
local macro_rules | `(tactic| walk_at "rd look") => `(tactic| first | rfl | assumption)
local macro_rules | `(tactic| walk_at "rd small") => `(tactic| first | decide | (simp only [List.length_append, List.length_cons, List.length_nil]; omega))
local macro_rules | `(tactic| walk_at "rd seqL") => `(tactic| first | exact SqL.of (by walk_at "rd at") | assumption)
local macro_rules | `(tactic| walk_at "rd item") => `(tactic| first | rfl | assumption)
local macro_rules | `(tactic| walk_at "rd known") => `(tactic| first | assumption | decide +kernel)
local macro_rules | `(tactic| walk_at "rd bool") => `(tactic| first | assumption | rfl)
local macro_rules | `(tactic| walk_at "rd") => `(tactic| (repeat (first
  | ((with_reducible apply rd_var); (exact rfl))
  | with_reducible refine rd_seq ?_ | with_reducible refine rd_asg ?_ | with_reducible refine rd_ret ?_ | with_reducible refine rd_retN ?_
  | with_reducible refine rd_drop ?_ | with_reducible refine rd_next ?_ | with_reducible refine rd_ifs ?_
  | with_reducible refine rd_test ?_ | with_reducible refine rd_tB ?_ | with_reducible refine rd_bl ?_ | with_reducible refine rd_and ?_
  | with_reducible refine rd_or ?_ | with_reducible refine rd_not ?_ | with_reducible refine rd_andV ?_ | with_reducible refine rd_orV ?_ | with_reducible refine rd_notV ?_
  | with_reducible refine rd_c ?_ | with_reducible refine rd_op ?_ | with_reducible refine rd_un ?_ | with_reducible refine rd_rI0 ?_ | with_reducible refine rd_rU ?_
  | with_reducible refine rd_cb ?_ | with_reducible refine rd_cons ?_ | with_reducible refine rd_nil ?_
  | with_reducible refine rd_gname ?_ | with_reducible refine rd_eqI ?_ | with_reducible refine rd_neI ?_ | with_reducible refine rd_int1 ?_
  | with_reducible refine rd_dgetS ?_ | with_reducible refine rd_dput ?_ | with_reducible refine rd_call ?_ | with_reducible refine rd_callS ?_ | with_reducible refine rd_lst ?_ | with_reducible refine rd_tup ?_
  | with_reducible refine rd_vei ?_ | with_reducible refine rd_ost ?_ | with_reducible refine rd_mko ?_
  | with_reducible refine rd_pcons ?_ | with_reducible refine rd_pnil ?_
  | with_reducible refine rd_ifT ?_ | with_reducible refine rd_ifF ?_
  | ((with_reducible apply rd_dget); (walk_at "rd dget"))
  | ((with_reducible apply rd_len); (walk_at "rd seq"))
  | ((with_reducible apply rd_dputE); (walk_at "rd dput"))
  | ((with_reducible apply rd_rI); (walk_at "rd cond"))
  | ((with_reducible show rIsH _ _ _ _ _ _ _); (apply rd_isH); (assumption); (walk_at "rd mem"); (walk_at "rd held")) | ((with_reducible show rIsH _ _ _ _ _ _ _); (apply rd_isVE); (assumption); (walk_at "rd held"))
  | with_reducible refine rd_xhS ?_ | with_reducible refine rd_bm ?_ | with_reducible refine rd_bm0 ?_
  | ((with_reducible show V.ref _ = V.ref _ ∧ _); (apply rd_xh); (assumption); (walk_at "rd mem"); (rfl); (walk_at "rd at"); (walk_at "rd look"))
  | ((with_reducible apply rd_tyL); (walk_at "rd at"))
  | ((with_reducible apply rd_append); (walk_at "rd at"); (walk_at "rd small"))
  | ((with_reducible apply rd_cat); (walk_at "rd at"); (walk_at "rd at"); (walk_at "rd small"))
  | ((with_reducible apply rd_in); (walk_at "rd seq"); (rfl); (rfl))
  | ((with_reducible apply rd_ixL); (walk_at "rd seqL"); (walk_at "rd item"))
  | ((with_reducible apply rd_ifDT); (walk_at "rd known")) | ((with_reducible apply rd_ifDF); (walk_at "rd known"))
  | ((with_reducible apply rd_ifNT); (walk_at "rd known")) | ((with_reducible apply rd_ifNF); (walk_at "rd known"))
  | ((with_reducible apply rd_ifET); (walk_at "rd bool")) | ((with_reducible apply rd_ifEF); (walk_at "rd bool"))
  | walk_at "rd own")))

/-! ### repr of what _law_value gives; what append does to it -/
theorem fits {d : PyData} (h : d.leavesShort 1921 = true) (w : d.weight ≤ 5000) : d.shown.length ≤ sizeLine := by
  have e := PyData.shown_le 1921 (by decide) d h
  rw [sizeLine_eq]
  omega
theorem lenI {i : Int} (h : i.natAbs.log2 < 1920) : (PyData.int i).shown.length ≤ 1921 := PyProof.Rows.int_text_len_1921 h
theorem wI {i : Int} (h : i.natAbs.log2 < 1920) : (PyData.int i).weight ≤ 1921 := by
  simp only [PyData.weight]
  split <;> omega
theorem log30 {n : Int} (h : n.natAbs < 2 ^ 30) : n.natAbs.log2 < 1920 := by
  by_cases e : n.natAbs = 0
  · rw [e]; decide
  · have := (Nat.log2_lt e).mpr h
    omega
structure Rp (K : PySem.W.Frag) (H : Hp) (v : V) (d : PyData) : Prop where
  dp : DpR K H v d
  sh : d.showable = true
  de : d.depth ≤ 60
  le : d.shown.length ≤ sizeLine
theorem Good.repr {K : PySem.W.Frag} {m : Nat} {H : Hp} {v : V} (hm : m ≤ 3) (g : Good m H v) : ∃ d, Rp K H v d := by
  cases g with
  | non => exact ⟨.none, .of .non rfl, rfl, by decide, by rw [sizeLine_eq]; decide⟩
  | bl b => exact ⟨.bool b, .of (.bl b) rfl, rfl, by show 0 ≤ 60; decide, by rw [sizeLine_eq]; cases b <;> decide⟩
  | int i h => exact ⟨.int i, .of (.int i) rfl, decide_eq_true h, by simp only [PyData.depth]; omega, fits (decide_eq_true (lenI h)) (Nat.le_trans (wI h) (by decide))⟩
  | str x h => exact ⟨.str x, .of (.str x) rfl, rfl, by simp only [PyData.depth]; omega, by rw [sizeLine_eq]; exact Nat.le_trans h (by decide)⟩
  | @lst a l n k h hl hn hk =>
    have lg := log30 hn
    have le := lenI lg
    have w := wI lg
    have st : (("later" : Str).cps.toList.all fun c => decide (c < 16 ^ 8)) = true := by decide +kernel
    have w2 : (PyData.str "later").weight = 5 := by decide +kernel
    have L : Dp K H (.ref l) (.list []) := .lst (SqL.of hl) .nil
    obtain rfl | rfl | rfl | rfl : k = 0 ∨ k = 1 ∨ k = 2 ∨ k = 3 := by omega
    · refine ⟨.list [.int n, .list []], .of (.lst (SqL.of h) (.cons (.int n) (.cons L .nil))) rfl, ?_, ?_, fits ?_ ?_⟩
      all_goals simp only [PyData.showable, PyData.showableAll, PyData.leavesShort, PyData.leavesShortAll, PyData.weightAll, PyData.depth, PyData.depthAll, st, decide_eq_true lg, decide_eq_true le, Bool.and_self, PyData.weight.eq_def (.list _)]
      all_goals omega
    · refine ⟨.list [.int n, .list [], .str "later"], .of (.lst (SqL.of h) (.cons (.int n) (.cons L (.cons (.str _) .nil)))) rfl, ?_, ?_, fits ?_ ?_⟩
      all_goals simp only [PyData.showable, PyData.showableAll, PyData.leavesShort, PyData.leavesShortAll, PyData.weightAll, PyData.depth, PyData.depthAll, st, decide_eq_true lg, decide_eq_true le, Bool.and_self, PyData.weight.eq_def (.list _)]
      all_goals omega
    · refine ⟨.list [.int n, .list [], .str "later", .str "later"], .of (.lst (SqL.of h) (.cons (.int n) (.cons L (.cons (.str _) (.cons (.str _) .nil))))) rfl, ?_, ?_, fits ?_ ?_⟩
      all_goals simp only [PyData.showable, PyData.showableAll, PyData.leavesShort, PyData.leavesShortAll, PyData.weightAll, PyData.depth, PyData.depthAll, st, decide_eq_true lg, decide_eq_true le, Bool.and_self, PyData.weight.eq_def (.list _)]
      all_goals omega
    · refine ⟨.list [.int n, .list [], .str "later", .str "later", .str "later"], .of (.lst (SqL.of h) (.cons (.int n) (.cons L (.cons (.str _) (.cons (.str _) (.cons (.str _) .nil)))))) rfl, ?_, ?_, fits ?_ ?_⟩
      all_goals simp only [PyData.showable, PyData.showableAll, PyData.leavesShort, PyData.leavesShortAll, PyData.weightAll, PyData.depth, PyData.depthAll, st, decide_eq_true lg, decide_eq_true le, Bool.and_self, PyData.weight.eq_def (.list _)]
      all_goals omega
  | @tup a b n h hb hn =>
    have lg := log30 hn
    have le := lenI lg
    have w := wI lg
    have st : (("a" : Str).cps.toList.all fun c => decide (c < 16 ^ 8)) = true := by decide +kernel
    have w2 : (PyData.str "a").weight = 1 := by decide +kernel
    refine ⟨.tuple [.str "a", .tuple [.int n]], .of (.tup (SqT.of h) (.cons (.str _) (.cons (.tup (SqT.of hb) (.cons (.int n) .nil)) .nil))) rfl, ?_, ?_, fits ?_ ?_⟩
    all_goals simp only [PyData.showable, PyData.showableAll, PyData.leavesShort, PyData.leavesShortAll, PyData.weightAll, PyData.depth, PyData.depthAll, st, decide_eq_true lg, decide_eq_true le, Bool.and_self, PyData.weight.eq_def (.tuple _)]
    all_goals omega
  | dic h => exact ⟨_, .dict h, by decide +kernel, by decide +kernel, by rw [sizeLine_eq]; decide +kernel⟩
end Lw

set_option Elab.async false
set_option linter.all false
set_option maxRecDepth 100000
set_option maxHeartbeats 16000000
namespace Lw
open PySem PySem.Spec PyProof.Rows L2 Fk
local macro_rules | `(tactic| walk_at "rd at") => `(tactic| first | assumption | exact upd_same | exact (upd_ne (by assumption)).trans (by walk_at "rd at"))
local macro_rules | `(tactic| walk_at "rd dget") => `(tactic| first | exact g_cells (by walk_at "rd at") | exact g_at (by walk_at "rd at") | exact g_digits (by walk_at "rd at") | exact g_count (by walk_at "rd at") | exact g_fold (by walk_at "rd at"))
local macro_rules | `(tactic| walk_at "rd dput") => `(tactic| first | exact p_at (by walk_at "rd at") | exact p_digits (by walk_at "rd at") | exact p_count (by walk_at "rd at") | exact p_fold (by walk_at "rd at"))
local macro_rules | `(tactic| walk_at "rd seq") => `(tactic| first | exact .inl (SqL.of (by walk_at "rd at")) | exact .inr (SqT.of (by walk_at "rd at")) | exact .inl (by assumption) | exact .inr (by assumption))
local macro_rules | `(tactic| walk_at "rd cond") => `(tactic| first | decide | assumption | (show (0 : Int) < _; omega) | (refine And.intro ?_ ?_ <;> omega) | (refine Or.inr ?_; refine And.intro ?_ ?_ <;> decide) | (refine Or.inl ?_; refine And.intro ?_ ?_ <;> omega) | (refine Or.inr ?_; refine And.intro ?_ ?_ <;> omega))
local macro_rules | `(tactic| walk_at "rd small") => `(tactic| first | assumption | omega)
local macro_rules | `(tactic| walk_at "rd seqT") => `(tactic| first | exact SqT.of (by walk_at "rd at") | assumption)
local macro_rules | `(tactic| walk_at "rd own") => `(tactic| first
  | with_reducible refine rd_par3 ?_ | with_reducible refine rd_par3E ?_ | with_reducible refine rd_rfl ?_ | with_reducible refine rd_sl ?_ | with_reducible refine rd_nopart ?_
  | with_reducible refine rd_part ?_ | with_reducible refine rd_partE ?_ | with_reducible refine rd_gcons ?_ | with_reducible refine rd_gnil ?_ | with_reducible refine rd_zipS ?_ | with_reducible refine rd_neRefl ?_
  | ((with_reducible apply rd_slL); (walk_at "rd seqL")) | ((with_reducible apply rd_gtup); (walk_at "rd seqT"); (rfl))
  | ((with_reducible apply rd_ixT); (walk_at "rd seqT"); (walk_at "rd item")))
local macro_rules | `(tactic| walk_at "rd held") => `(tactic| first | assumption | exact held_upd (by walk_at "rd held") (by walk_at "rd at") | exact held_new (by walk_at "rd held") (by assumption))
local macro_rules | `(tactic| walk_at "rd mem") => `(tactic| first | decide | assumption | (simp; done))
local macro_rules | `(tactic| walk_at "rd look") => `(tactic| first | rfl | assumption)
local macro_rules | `(tactic| walk_at "rd small") => `(tactic| first | decide | (simp only [List.length_append, List.length_cons, List.length_nil]; omega))
local macro_rules | `(tactic| walk_at "rd seqL") => `(tactic| first | exact SqL.of (by walk_at "rd at") | assumption)
local macro_rules | `(tactic| walk_at "rd item") => `(tactic| first | rfl | assumption)
local macro_rules | `(tactic| walk_at "rd known") => `(tactic| first | assumption | decide +kernel | (intro z; cases z; done))
local macro_rules | `(tactic| walk_at "rd bool") => `(tactic| first | assumption | rfl)
local macro_rules | `(tactic| walk_at "rd") => `(tactic| (repeat (first
  | ((with_reducible apply rd_var); (exact rfl))
  | with_reducible refine rd_seq ?_ | with_reducible refine rd_asg ?_ | with_reducible refine rd_ret ?_ | with_reducible refine rd_retN ?_
  | with_reducible refine rd_drop ?_ | with_reducible refine rd_next ?_ | with_reducible refine rd_ifs ?_
  | with_reducible refine rd_test ?_ | with_reducible refine rd_tB ?_ | with_reducible refine rd_bl ?_ | with_reducible refine rd_and ?_
  | with_reducible refine rd_or ?_ | with_reducible refine rd_not ?_ | with_reducible refine rd_andV ?_ | with_reducible refine rd_orV ?_ | with_reducible refine rd_notV ?_
  | with_reducible refine rd_c ?_ | with_reducible refine rd_op ?_ | with_reducible refine rd_un ?_ | with_reducible refine rd_rI0 ?_ | with_reducible refine rd_rU ?_
  | with_reducible refine rd_cb ?_ | with_reducible refine rd_cons ?_ | with_reducible refine rd_nil ?_
  | with_reducible refine rd_gname ?_ | with_reducible refine rd_eqI ?_ | with_reducible refine rd_neI ?_ | with_reducible refine rd_int1 ?_
  | with_reducible refine rd_dgetS ?_ | with_reducible refine rd_dput ?_ | with_reducible refine rd_call ?_ | with_reducible refine rd_callS ?_ | with_reducible refine rd_lst ?_ | with_reducible refine rd_tup ?_
  | with_reducible refine rd_vei ?_ | with_reducible refine rd_ost ?_ | with_reducible refine rd_mko ?_
  | with_reducible refine rd_pcons ?_ | with_reducible refine rd_pnil ?_
  | with_reducible refine rd_ifT ?_ | with_reducible refine rd_ifF ?_
  | ((with_reducible apply rd_dget); (walk_at "rd dget"))
  | ((with_reducible apply rd_len); (walk_at "rd seq"))
  | ((with_reducible apply rd_dputE); (walk_at "rd dput"))
  | ((with_reducible apply rd_rI); (walk_at "rd cond"))
  | ((with_reducible show rIsH _ _ _ _ _ _ _); (apply rd_isH); (assumption); (walk_at "rd mem"); (walk_at "rd held")) | ((with_reducible show rIsH _ _ _ _ _ _ _); (apply rd_isVE); (assumption); (walk_at "rd held"))
  | with_reducible refine rd_xhS ?_ | with_reducible refine rd_bm ?_ | with_reducible refine rd_bm0 ?_
  | ((with_reducible show V.ref _ = V.ref _ ∧ _); (apply rd_xh); (assumption); (walk_at "rd mem"); (rfl); (walk_at "rd at"); (walk_at "rd look"))
  | ((with_reducible apply rd_tyL); (walk_at "rd at"))
  | ((with_reducible apply rd_append); (walk_at "rd at"); (walk_at "rd small"))
  | ((with_reducible apply rd_cat); (walk_at "rd at"); (walk_at "rd at"); (walk_at "rd small"))
  | ((with_reducible apply rd_in); (walk_at "rd seq"); (rfl); (rfl))
  | ((with_reducible apply rd_ixL); (walk_at "rd seqL"); (walk_at "rd item"))
  | ((with_reducible apply rd_ifDT); (walk_at "rd known")) | ((with_reducible apply rd_ifDF); (walk_at "rd known"))
  | ((with_reducible apply rd_ifNT); (walk_at "rd known")) | ((with_reducible apply rd_ifNF); (walk_at "rd known"))
  | ((with_reducible apply rd_ifET); (walk_at "rd bool")) | ((with_reducible apply rd_ifEF); (walk_at "rd bool"))
  | walk_at "rd own")))

/-! ### the law -/
theorem Good.mono {m n : Nat} {H : Hp} {v : V} (h : m ≤ n) (g : Good m H v) : Good n H v := by
  cases g with
  | non => exact .non
  | bl b => exact .bl b
  | int i h => exact .int i h
  | str x h => exact .str x h
  | lst h1 hl hn hk => exact .lst h1 hl hn (Nat.le_trans hk h)
  | tup h hb hn => exact .tup h hb hn
  | dic h => exact .dic h
/-- a list of these at a: what append leaves -/
def GList (m : Nat) (H : Hp) (a : Addr) (xs : List V) : Prop := ∃ (l : Addr) (n : Int) (k : Nat), xs = [V.int n, V.ref l] ++ List.replicate k (V.str "later") ∧ H a = some (.lst xs) ∧ H l = some (.lst []) ∧ n.natAbs < 2 ^ 30 ∧ k ≤ m
theorem Good.app {m : Nat} {H : Hp} {a : Addr} {xs : List V} {v : V} (L : GList m H a xs) (g : Good m H v) : Good (m + 1) (upd H a (.lst (xs ++ [V.str "later"]))) v := by
  obtain ⟨l, n, k, rfl, ha, hl, hn, hk⟩ := L
  have kl : ∀ {b : Addr} {o : HO}, H b = some o → (∀ ys, o = .lst ys → ys.length = 0) → upd H a (.lst ([V.int n, V.ref l] ++ List.replicate k (V.str "later") ++ [V.str "later"])) b = some o := by
    intro b o e z
    rw [upd_ne]
    · exact e
    · intro y
      rw [y, ha] at e
      have := z _ (Option.some.inj e).symm
      simp at this
  cases g with
  | non => exact .non
  | bl b => exact .bl b
  | int i h => exact .int i h
  | str x h => exact .str x h
  | @lst a' l' n' k' h1 hl' hn' hk' =>
    by_cases e : a' = a
    · subst e
      rw [ha] at h1
      refine .lst (k := k + 1) ?_ (kl hl fun ys z => by cases z; rfl) hn (by omega)
      rw [upd_same, List.append_assoc, List.replicate_succ']
    · exact .lst ((upd_ne e).trans h1) (kl hl' fun ys z => by cases z; rfl) hn' (Nat.le_succ_of_le hk')
  | tup h hb hn => exact .tup (kl h fun _ z => nomatch z) (kl hb fun _ z => nomatch z) hn
  | dic h => exact .dic (kl h fun _ z => nomatch z)
/-- list or not -/
theorem Good.kind {K : PySem.W.Frag} {m : Nat} {H : Hp} {v : V} (g : Good m H v) : ∃ (t : Value) (b : Bool), TyX K H v t ∧ PySem.W.kitOne K t (.type "list") = some b ∧ (b = true → ∃ a xs, v = .ref a ∧ GList m H a xs) := by
  cases g with
  | non => exact ⟨_, false, .base .non, kit_ty (by decide +kernel), fun z => nomatch z⟩
  | bl b => exact ⟨_, false, .base (.bl b), kit_ty (by decide +kernel), fun z => nomatch z⟩
  | int i h => exact ⟨_, false, .base (.int i), kit_ty (by decide +kernel), fun z => nomatch z⟩
  | str x h => exact ⟨_, false, .base (.str x), kit_ty (by decide +kernel), fun z => nomatch z⟩
  | lst h hl hn hk => exact ⟨_, true, .base (.lst h), kit_ty (by decide +kernel), fun _ => ⟨_, _, rfl, _, _, _, rfl, h, hl, hn, hk⟩⟩
  | tup h hb hn => exact ⟨_, false, .base (.tup h), kit_ty (by decide +kernel), fun z => nomatch z⟩
  | dic h => exact ⟨_, false, .base (.dK h), kit_ty (by decide +kernel), fun z => nomatch z⟩
theorem Good.there {m : Nat} {H : Hp} {a : Addr} (g : Good m H (.ref a)) : ∃ o, H a = some o := by
  cases g with
  | lst h => exact ⟨_, h⟩
  | tup h => exact ⟨_, h⟩
  | dic h => exact ⟨_, h⟩
theorem PenAt.app {m : Nat} {H : Hp} {p a : Addr} {xs ys : List V} (hp : PenAt H p) (L : GList m H a xs) : PenAt (upd H a (.lst ys)) p := by
  obtain ⟨ns, c, i, d, n', f, h1, h2, h3⟩ := hp
  obtain ⟨l, n, k, rfl, ha, hl, hn, hk⟩ := L
  refine ⟨ns, c, i, d, n', f, (upd_ne (ne_of h1 ha (fun z => nomatch z))).trans h1, (upd_ne ?_).trans h2, h3⟩
  intro e
  rw [e, ha] at h2
  have e2 := HO.lst.inj (Option.some.inj h2)
  have e3 : ([V.int n, V.ref l] ++ List.replicate k (V.str "later"))[1]? = (ns.map V.int)[1]? := by rw [e2]
  rw [List.getElem?_map] at e3
  cases e4 : ns[1]? with
  | none => rw [e4] at e3; simp at e3
  | some z => rw [e4] at e3; simp at e3
theorem GList.ne {m : Nat} {H : Hp} {a b : Addr} {xs ys : List V} (L : GList m H a xs) (h : H b = some (.lst ys)) (n : ∀ l, ys[1]? ≠ some (V.ref l)) : b ≠ a := by
  obtain ⟨l, n', k, rfl, ha, _⟩ := L
  intro e
  rw [e, ha] at h
  have e2 := HO.lst.inj (Option.some.inj h)
  exact n l (by rw [← e2]; rfl)

def NM : List V := (errs.map fun q => V.str q.1)
def SZ : List V := (errs.map fun q => V.int (q.2.length : Nat))
theorem nm1 : ∀ l, NM[1]? ≠ some (V.ref l) := fun l z => nomatch z
theorem sz1 : ∀ l, SZ[1]? ≠ some (V.ref l) := fun l z => nomatch z
def spLaw (K : PySem.W.Frag) : Sp := fun vs H Q _ => ∃ (a : Addr) (ns : List Int), vs = [.ref a] ∧ SqL K H a (ns.map V.int) ∧ ∀ H', Q (.bl true) H'
abbrev sLaw : Stmt := top 24
theorem scLaw : FnScope ["script", "pen", "names", "sizes", "kind", "one", "two", "three", "told", "due", "field", "value"] ["script"] (defScope sLaw) := ⟨rfl, rfl, rfl, by decide +kernel, rfl, by decide +kernel, by decide +kernel⟩
section
variable {P : Program} {w : World} {K : PySem.W.Frag} {mg : Str → Option Value} {base : Heap}
theorem cut3 {x y z : V} {fs : List Str} (h : fs.length ≤ 3) : cutV [x, y, z] none (some ((fs.length : Nat) : Int)) = [x, y, z].take fs.length := by
  match fs, h with
  | [], _ => rfl
  | [_], _ => rfl
  | [_, _], _ => rfl
  | [_, _, _], _ => rfl
theorem ok_law {f f1 f2 f3 : Addr} {fd fd1 fd2 fd3 : FuncData} (F : Fun K "law" "law" sLaw f fd) (T : Bi mg)
    (G1 : FnOk P w K mg base CX0 1 f1 fd1 ["script"] (spPen K)) (N1 : At K mg "_law_pen" f1 fd1 ["script"])
    (G2 : FnOk P w K mg base CX0 3 f2 fd2 ["pen"] spVal) (N2 : At K mg "_law_value" f2 fd2 ["pen"])
    (G3 : FnOk P w K mg base CX0 5 f3 fd3 ["kind", "one", "two", "three"] spOne) (N3 : At K mg "_law_one" f3 fd3 ["kind", "one", "two", "three"]) :
    FnG P w K mg base CX0 6 f fd ["script"] (spLaw K) := by
  refine okG F scLaw (fun vs H Q E h => ?_) (fun cdv A out s H vs Q E hG hr h => ?_)
  · obtain ⟨a, ns, rfl, _⟩ := h; rfl
  · obtain ⟨a, ns, rfl, hS, k⟩ := h
    have hu64 := hr.units
    refine ⟨_, PSs.nox (pss_cons (ps_set (i := 1) scLaw.nd rfl (Or.inl rfl) (pe_call G1 (hr.mono (by decide)) rfl N1.1 N1.2.1 N1.2.2 .nil pass0 (pa_cons (pv 0) pa_nil)))
      (pss_cons (ps_set (i := 2) scLaw.nd rfl (Or.inl rfl) (pe_lst (pa_cons pe_str (pa_cons pe_str (pa_cons pe_str (pa_cons pe_str (pa_cons pe_str (pa_cons pe_str pa_nil))))))))
      (pss_cons (ps_set (i := 2) scLaw.nd rfl (Or.inl rfl) (pe_op op_cat (pv 2) (pe_lst (pa_cons pe_str (pa_cons pe_str (pa_cons pe_str (pa_cons pe_str (pa_cons pe_str pa_nil))))))))
      (pss_cons (ps_set (i := 3) scLaw.nd rfl (Or.inl rfl) (pe_lst (pa_cons pe_int (pa_cons pe_int (pa_cons pe_int (pa_cons pe_int (pa_cons pe_int (pa_cons pe_int (pa_cons pe_int (pa_cons pe_int (pa_cons pe_int (pa_cons pe_int (pa_cons pe_int pa_nil)))))))))))))
      (pss_cons (ps_for PassesOwn.never rfl (pi_range1 (by rfl) T.range (pa_cons pe_int pa_nil)) (pg_name (i := 4) scLaw.nd rfl (Or.inl rfl)) (pss_cons (ps_par3 (i := 5) (j := 6) (l := 7) rfl scLaw.nd rfl rfl rfl (by decide) (by decide) (by decide) rfl rfl rfl (pa_cons (pe_call G2 (hr.mono (by decide)) rfl N2.1 N2.2.1 N2.2.2 .nil pass0 (pa_cons (pv 1) pa_nil)) (pa_cons (pe_call G2 (hr.mono (by decide)) rfl N2.1 N2.2.1 N2.2.2 .nil pass0 (pa_cons (pv 1) pa_nil)) (pa_cons (pe_call G2 (hr.mono (by decide)) rfl N2.1 N2.2.1 N2.2.2 .nil pass0 (pa_cons (pv 1) pa_nil)) pa_nil))) (by rfl))
      (pss_cons (ps_set (i := 8) scLaw.nd rfl (Or.inl rfl) (pe_call G3 hr rfl N3.1 N3.2.1 N3.2.2 .nil pass0 (pa_cons (pv 4) (pa_cons (pv 5) (pa_cons (pv 6) (pa_cons (pv 7) pa_nil))))))
      (pss_cons (ps_if (PW.pt (pw_or (pt_cmpR op_isN (pv 8) pe_non (nomark _)) (pw_or1 (pt_cmpR (op_neD hu64) (pe_ix ix_tup (pv 8) pe_int (fun _ _ => rfl)) (pe_lst (pa_cons (pe_ix ix_list (pv 2) (pv 4) (fun _ _ => rfl)) pa_nil)) (nomark _))))) (pss_one (ps_ret pe_bl)) pss_nil)
      (pss_cons (ps_set (i := 9) scLaw.nd rfl (Or.inl rfl) (pe_slice sl_list (pe_lst (pa_cons (pv 5) (pa_cons (pv 6) (pa_cons (pv 7) pa_nil)))) po_none (po_some (pe_ix ix_list (pv 3) (pv 4) (fun _ _ => rfl)))))
      (pss_cons (ps_if (pt_cmpR op_ne (pe_callB call_len_seq (by rfl) T.len PySem.boot_len (pa_cons (pe_ix ix_tup (pv 8) pe_int (fun _ _ => rfl)) pa_nil)) (pe_callB call_len_seq (by rfl) T.len PySem.boot_len (pa_cons (pv 9) pa_nil)) (nomark _)) (pss_one (ps_ret pe_bl)) pss_nil)
      (pss_one (ps_for PassesOwn.never rfl (pi_zip (by rfl) T.zip (pa_cons (pe_ix ix_tup (pv 8) pe_int (fun _ _ => rfl)) (pa_cons (pv 9) pa_nil))) (pg_tup rfl (pgs_cons (pg_name (i := 10) scLaw.nd rfl (Or.inl rfl)) (pgs_cons (pg_name (i := 11) scLaw.nd rfl (Or.inl rfl)) pgs_nil))) (pss_cons (ps_if (pt_val (pe_callB call_isi (by rfl) T.isinstance (by decide +kernel) (pa_cons (pv 11) (pa_cons (pe_bltn (v := .ty "list") rfl T.list (by decide +kernel) rfl) pa_nil)))) (pss_one (ps_expr (pe_bm PySem.F.plainAttrs_list PySem.F.slot_list_append PySem.F.type_list_append mt_append (pv 11) (pa_cons pe_str pa_nil)))) pss_nil)
      (pss_one (ps_if (pt_cmpR op_ne (pe_callB (call_repr hG hu64) (by rfl) T.repr (by decide +kernel) (pa_cons (pv 10) pa_nil)) (pe_callB (call_repr hG hu64) (by rfl) T.repr (by decide +kernel) (pa_cons (pv 11) pa_nil)) (nomark _)) (pss_one (ps_ret pe_bl)) pss_nil)))))))))))
      (pss_one (ps_ret pe_bl))))))), ?_⟩
    walk_at "rd"
    refine ⟨a, ns, rfl, hS, fun p H1 np hp b1 => ?_⟩
    walk_at "rd"
    refine rd_new (by decide) fun l1 h1 => ?_
    walk_at "rd"
    refine rd_new (by decide) fun l2 h2 => ?_
    have n12 : l1 ≠ l2 := ne_of_none upd_same h2
    walk_at "rd"
    intro nmL h3
    walk_at "rd"
    refine rd_new (by decide) fun szL h4 => ?_
    walk_at "rd"
    refine rd_forR (n := 11) ?_ (fun _ _ h q => h _ _ q)
    walk_at "rd"
    refine ⟨rfl, by decide, fun i σ H' => ∃ o4 o5 o6 o7 o8 o9 o10 o11 : Option V, σ = [some (.ref a), some (.ref p), some (.ref nmL), some (.ref szL), o4, o5, o6, o7, o8, o9, o10, o11] ∧
      PenAt H' p ∧ H' nmL = some (.lst NM) ∧ H' szL = some (.lst SZ),
      ⟨none, none, none, none, none, none, none, none, rfl, (((hp.keep (same_new h1)).keep (same_new h2)).keep (same_new h3)).keep (same_new h4), same_new h4 _ _ upd_same, upd_same⟩, ?_, ?_⟩
    · rintro i σ H2 hi ⟨o4, o5, o6, o7, o8, o9, o10, o11, rfl, hp2, hn2, hz2⟩
      rw [Int.zero_add]
      obtain ⟨⟨nm, fs⟩, he⟩ : ∃ q, errs[i]? = some q := ⟨_, List.getElem?_eq_getElem (show i < errs.length from hi)⟩
      have hnm : atI NM (i : Int) = some (.str nm) := atI_nat (by unfold NM; rw [List.getElem?_map, he]; rfl)
      have hsz : atI SZ (i : Int) = some (.int (fs.length : Nat)) := atI_nat (by unfold SZ; rw [List.getElem?_map, he]; rfl)
      have shp : SeqAt.shaped (.list [.str nm]) = true := (by decide +kernel : ∀ q ∈ errs, SeqAt.shaped (.list [.str q.1]) = true) _ (List.mem_of_getElem? he)
      have f3 : fs.length ≤ 3 := (by decide +kernel : ∀ q ∈ errs, q.2.length ≤ 3) _ (List.mem_of_getElem? he)
      walk_at "rd"
      refine ⟨p, rfl, hp2, fun v1 H3 g1 hp3 b3 => ?_⟩
      walk_at "rd"
      refine ⟨p, rfl, hp3, fun v2 H4 g2 hp4 b4 => ?_⟩
      walk_at "rd"
      refine ⟨p, rfl, hp4, fun v3 H5 g3 hp5 b5 => ?_⟩
      have g1' := (g1.but hp3 b4).but hp4 b5
      have g2' := g2.but hp4 b5
      have B := (b3.trans b4).trans b5
      have hn5 := B.at hp2 hn2 (fun _ z => nomatch z)
      have hz5 := B.at hp2 hz2 (fun _ z => nomatch z)
      walk_at "rd"
      refine ⟨i, nm, fs, v1, v2, v3, rfl, he, fun t q r H6 hr6 s6 e1 e2 e3 => ?_⟩
      have hp6 := hp5.keep s6
      have hn6 := s6 _ _ hn5
      have hz6 := s6 _ _ hz5
      walk_at "rd"
      refine rd_new (by show 1 ≤ 1000; decide) fun x hx => ?_
      have tx := ne_of_none e1 hx
      have rx := ne_of_none e3 hx
      have zx := ne_of_none hz6 hx
      walk_at "rd"
      refine ⟨.list [.str nm], .list [.str nm], .lst (SqL.of (same_new hx _ _ e2)) (.cons (.str _) .nil), .lst (SqL.of upd_same) (.cons (.str _) .nil), shp, shp, ?_⟩
      rw [show PyData.eqv (.list [.str nm]) (.list [.str nm]) = true from by simp [PyData.eqv, PyData.eqvAll]]
      walk_at "rd"
      refine rd_new (by show 3 ≤ 1000; decide) fun y hy => ?_
      have ty := ne_of_none (same_new hx _ _ e1) hy
      have ry := ne_of_none (same_new hx _ _ e3) hy
      have zy := ne_of_none (same_new hx _ _ hz6) hy
      walk_at "rd"
      intro du hdu
      rw [cut3 f3]
      have td := ne_of_none (same_new hy _ _ (same_new hx _ _ e1)) hdu
      have rdu := ne_of_none (same_new hy _ _ (same_new hx _ _ e3)) hdu
      walk_at "rd"
      refine rd_ifNF rfl ?_
      walk_at "rd"
      with_reducible refine rd_forS ?_
      walk_at "rd"
      have sx := same_new (o := .lst [V.str nm]) hx
      have sy := same_new (o := .lst [v1, v2, v3]) hy
      have sd := same_new (o := .lst ([v1, v2, v3].take fs.length)) hdu
      have s9 : Same H5 _ := ((s6.trans sx).trans sy).trans sd
      have gd : ∀ v ∈ [v1, v2, v3].take fs.length, Good 0 H5 v := fun v hv => by
        have h := List.mem_of_mem_take hv
        simp only [List.mem_cons, List.not_mem_nil, or_false] at h
        rcases h with rfl | rfl | rfl
        · exact g1'
        · exact g2'
        · exact g3
      have du5 : H5 du = none := ((s6.trans sx).trans sy).free hdu
      have hap : ∀ v ∈ [v1, v2, v3].take fs.length, ∀ b, v = .ref b → b ≠ r ∧ b ≠ du := fun v hv b e => by
        have g := gd v hv
        rw [e] at g
        obtain ⟨o, ho⟩ := g.there
        exact ⟨ne_of_none ho hr6, ne_of_none ho du5⟩
      have Zl : ([v1, v2, v3].take fs.length).length ≤ 3 := by
        rw [List.length_take]
        exact Nat.min_le_right _ _
      have er : (upd (upd (upd H6 x (.lst [V.str nm])) y (.lst [v1, v2, v3])) du (.lst ([v1, v2, v3].take fs.length))) r = some (.lst ([v1, v2, v3].take fs.length)) := sd _ _ (sy _ _ (sx _ _ e3))
      have hp9 := hp5.keep s9
      have hn9 := s9 _ _ hn5
      have hz9 := s9 _ _ hz5
      have gd9 : ∀ v ∈ [v1, v2, v3].take fs.length, Good 0 _ v := fun v hv => (gd v hv).same s9
      generalize [v1, v2, v3].take fs.length = Z at *
      refine ⟨r, du, Z, Z, rfl, SqL.of er, SqL.of upd_same, RZ.for_zipL (xs := Z) (ys := Z) rfl (fun j σ H' => ∃ o10 o11 : Option V, σ = [some (.ref a), some (.ref p), some (.ref nmL), some (.ref szL), some (.int i), some v1, some v2, some v3, some (.ref t), some (.ref du), o10, o11] ∧
        PenAt H' p ∧ H' nmL = some (.lst NM) ∧ H' szL = some (.lst SZ) ∧ H' r = some (.lst Z) ∧ H' du = some (.lst Z) ∧ ∀ v ∈ Z, Good j H' v)
        ⟨o10, o11, rfl, hp9, hn9, hz9, er, upd_same, gd9⟩ ?_ ?_ ?_⟩
      · rintro j σ H' ⟨o10, o11, rfl, _, _, _, h1, h2, _⟩
        exact ⟨SqL.of h1, SqL.of h2⟩
      · rintro j z z' W σ H' hz hz' ⟨o10, o11, rfl, hp', hn', hq', hr', hd', hg'⟩ hW
        have ez : z = z' := Option.some.inj (hz.symm.trans hz')
        subst ez
        have hm := List.mem_of_getElem? hz
        have hj : j < Z.length := (List.getElem?_eq_some_iff.mp hz).1
        have sW := same_new (o := .tup [z, z]) hW
        have gz := (hg' z hm).same sW
        walk_at "rd"
        obtain ⟨tt, b, tyz, ki, li⟩ := Good.kind (K := K) gz
        refine rd_isi (ClsV.ty _) tyz ki ?_
        walk_at "rd"
        cases b with
        | true =>
          obtain ⟨c, xs, rfl, L⟩ := li rfl
          obtain ⟨nr, nd⟩ := hap _ hm c rfl
          have hc : upd H' W (.tup [V.ref c, V.ref c]) c = some (.lst xs) := by obtain ⟨_, _, _, _, h, _⟩ := L; exact h
          have hxs : xs.length < 1000 := by
            obtain ⟨_, _, k', rfl, _, _, _, hk⟩ := L
            simp only [List.length_append, List.length_cons, List.length_nil, List.length_replicate]
            omega
          walk_at "rd"
          obtain ⟨d, R⟩ := Good.repr (K := K) (by omega) (gz.app L)
          refine ⟨_, d, rfl, R.dp, R.sh, R.de, R.le, ?_⟩
          walk_at "rd"
          refine ⟨_, d, rfl, R.dp, R.sh, R.de, R.le, ?_⟩
          walk_at "rd"
          refine ⟨_, _, rfl, (hp'.keep sW).app L, ?_, ?_, ?_, ?_, fun v hv => ((hg' v hv).same sW).app L⟩
          · exact (upd_ne (L.ne (sW _ _ hn') nm1)).trans (sW _ _ hn')
          · exact (upd_ne (L.ne (sW _ _ hq') sz1)).trans (sW _ _ hq')
          · exact (upd_ne nr.symm).trans (sW _ _ hr')
          · exact (upd_ne nd.symm).trans (sW _ _ hd')
        | false =>
          walk_at "rd"
          obtain ⟨d, R⟩ := Good.repr (K := K) (by omega) gz
          refine ⟨_, d, rfl, R.dp, R.sh, R.de, R.le, ?_⟩
          walk_at "rd"
          refine ⟨_, d, rfl, R.dp, R.sh, R.de, R.le, ?_⟩
          walk_at "rd"
          exact ⟨_, _, rfl, hp'.keep sW, sW _ _ hn', sW _ _ hq', sW _ _ hr', sW _ _ hd', fun v hv => ((hg' v hv).same sW).mono (Nat.le_succ _)⟩
      · rintro σ H' ⟨o10, o11, rfl, hp', hn', hq', _⟩
        exact ⟨_, _, _, _, _, _, _, _, rfl, hp', hn', hq'⟩
    · rintro σ H2 ⟨o4, o5, o6, o7, o8, o9, o10, o11, rfl, _⟩
      walk_at "rd"
      exact k _
end
end Lw

set_option Elab.async false
set_option linter.all false
set_option maxRecDepth 100000
set_option maxHeartbeats 0
namespace Lw
open PySem PySem.Spec PyProof.Rows L2 Fk
def fn : List He.DefD := [
  ⟨("BadText", some "__init__"), "__init__", "BadText.__init__", defArgs (inClass (top 2) 0), defBody (inClass (top 2) 0), defScope (inClass (top 2) 0), [], []⟩,
  ⟨("BadName", some "__init__"), "__init__", "BadName.__init__", defArgs (inClass (top 3) 0), defBody (inClass (top 3) 0), defScope (inClass (top 3) 0), [], []⟩,
  ⟨("BadNumber", some "__init__"), "__init__", "BadNumber.__init__", defArgs (inClass (top 4) 0), defBody (inClass (top 4) 0), defScope (inClass (top 4) 0), [], []⟩,
  ⟨("BadRow", some "__init__"), "__init__", "BadRow.__init__", defArgs (inClass (top 5) 0), defBody (inClass (top 5) 0), defScope (inClass (top 5) 0), [], []⟩,
  ⟨("NoName", some "__init__"), "__init__", "NoName.__init__", defArgs (inClass (top 6) 0), defBody (inClass (top 6) 0), defScope (inClass (top 6) 0), [], []⟩,
  ⟨("TakenName", some "__init__"), "__init__", "TakenName.__init__", defArgs (inClass (top 7) 0), defBody (inClass (top 7) 0), defScope (inClass (top 7) 0), [], []⟩,
  ⟨("Unlike", some "__init__"), "__init__", "Unlike.__init__", defArgs (inClass (top 8) 0), defBody (inClass (top 8) 0), defScope (inClass (top 8) 0), [], []⟩,
  ⟨("TooMany", some "__init__"), "__init__", "TooMany.__init__", defArgs (inClass (top 9) 0), defBody (inClass (top 9) 0), defScope (inClass (top 9) 0), [], []⟩,
  ⟨("NotKept", some "__init__"), "__init__", "NotKept.__init__", defArgs (inClass (top 10) 0), defBody (inClass (top 10) 0), defScope (inClass (top 10) 0), [], []⟩,
  ⟨("NothingToUndo", some "__init__"), "__init__", "NothingToUndo.__init__", defArgs (inClass (top 11) 0), defBody (inClass (top 11) 0), defScope (inClass (top 11) 0), [], []⟩,
  ⟨("NothingToRedo", some "__init__"), "__init__", "NothingToRedo.__init__", defArgs (inClass (top 12) 0), defBody (inClass (top 12) 0), defScope (inClass (top 12) 0), [], []⟩,
  ⟨("_law_pen", none), "_law_pen", "_law_pen", defArgs sPen, defBody sPen, defScope sPen, [], []⟩,
  ⟨("_law_draw", none), "_law_draw", "_law_draw", defArgs sDraw, defBody sDraw, defScope sDraw, [], []⟩,
  ⟨("_law_pick", none), "_law_pick", "_law_pick", defArgs sPick, defBody sPick, defScope sPick, [], []⟩,
  ⟨("_law_value", none), "_law_value", "_law_value", defArgs sVal, defBody sVal, defScope sVal, [], []⟩,
  ⟨("_law_classes", none), "_law_classes", "_law_classes", defArgs sC, defBody sC, defScope sC, [], []⟩,
  ⟨("_law_more_kinds", none), "_law_more_kinds", "_law_more_kinds", defArgs sM, defBody sM, defScope sM, [], []⟩,
  ⟨("_law_fall", none), "_law_fall", "_law_fall", defArgs sF, defBody sF, defScope sF, [], []⟩,
  ⟨("_law_other_fall", none), "_law_other_fall", "_law_other_fall", defArgs sO, defBody sO, defScope sO, [], []⟩,
  ⟨("_law_fields", none), "_law_fields", "_law_fields", defArgs sG, defBody sG, defScope sG, [], []⟩,
  ⟨("_law_one", none), "_law_one", "_law_one", defArgs sOne, defBody sOne, defScope sOne, [], []⟩,
  ⟨("law", none), "law", "law", defArgs sLaw, defBody sLaw, defScope sLaw, [], []⟩]
def fa : List He.Fa := [.glo "FoldError", .glo "BadText", .glo "BadName", .glo "BadNumber", .glo "BadRow", .glo "NoName", .glo "TakenName", .glo "Unlike", .glo "TooMany", .glo "NotKept", .glo "NothingToUndo", .glo "NothingToRedo", .glo "_law_pen", .glo "_law_draw", .glo "_law_pick", .glo "_law_value", .glo "_law_classes", .glo "_law_more_kinds", .glo "_law_fall", .glo "_law_other_fall", .glo "_law_fields", .glo "_law_one", .glo "law", .free "len", .free "int", .free "list", .free "range", .free "isinstance", .free "repr", .free "zip", .free "ValueError"]
def ex (K : PySem.W.Frag) : Bool := baseB K (He.ga K "FoldError") && errs.all fun q => erB K ys q.1 q.2
abbrev R : PySem.W.OpenRow := PySem.W.OpenLaw.row PySem.Challenge.rw_foldkept_k00_errors_as_told
abbrev hk : PySem.W.Hook := Fk.hookF 6 fa fn ex
def ob (s : PySem.W.SharedT) : He.AlD × Bool := Fk.obsF 6 fa fn ex (HandSHeadRun.getT s)
theorem ob_eq (s : PySem.W.SharedT) : ob s = hk.obs s.abs := Fk.obsF_eq (HandSHeadRun.getT_eq s)
def loose : List Str := ["FoldError", "BadText", "BadName", "BadNumber", "BadRow", "NoName", "TakenName", "Unlike", "TooMany", "NotKept", "NothingToUndo", "NothingToRedo", "_law_pen", "_law_draw", "_law_pick", "_law_value", "_law_classes", "_law_more_kinds", "_law_fall", "_law_other_fall", "_law_fields", "_law_one"]
theorem run (w : World) : HandSHeadRun.RunEq R (PySem.W.view R.prog [24]) hk ob 4000 loose w := by
  intro os
  kernel_rfl
theorem fun_of {K : PySem.W.Frag} {x q : Str} {st : Stmt} {f : Addr} {fd : FuncData} (F : FunD K x q (defArgs st) (defBody st) (defScope st) [] [] f fd) : Fun K x q st f fd := by
  obtain ⟨⟨oc, od, dV, kV, doc, pm, an, cdv, ct, osl, e, lk, hc, hD, _⟩, kp⟩ := F
  rcases hD with ⟨_, rfl⟩ | ⟨z, _⟩
  · exact ⟨⟨oc, od, kV, doc, pm, an, cdv, ct, osl, e, lk, hc⟩, kp⟩
  · exact absurd rfl z
theorem facts {P : Program} {w : World} {K : PySem.W.Frag} {h : Heap} {mg : Str → Option Value} {f : Addr} (X : K.In h) (G : h.Ns mainGlobals mg) (hfa : mg ("law" : Str) = some (.ref f)) (c : He.SaysD fa fn K ∧ ex K = true) :
    ∃ fd : FuncData, (∀ (s : Shared) (v : Value), BindsTo s fd ⟨[v], []⟩ [("script", v)]) ∧ ∀ base : Heap, K.In base → base.Ns mainGlobals mg → FnG P w K mg base CX0 6 f fd ["script"] (spLaw K) := by
  have sd : He.SaysD fa fn K := c.1
  obtain ⟨x1, x2⟩ := two c.2
  have hE : ∀ q ∈ errs, ErC K ys q.1 q.2 := fun q hq => erB_ok (List.all_eq_true.mp x2 q hq)
  have gl : ∀ {x : Str} (i : Nat), fa[i]? = some (.glo x) → mg x = some (.ref (He.ga K x)) := fun i h => He.glo_ok X G (sd.fact i h)
  have fr : ∀ {x : Str} (i : Nat), fa[i]? = some (.free x) → mg x = none := fun i h => He.free_ok X G (sd.fact i h)
  have T : Bi mg := ⟨fr 30 rfl, fr 23 rfl, fr 24 rfl, fr 25 rfl, fr 26 rfl, fr 27 rfl, fr 28 rfl, fr 29 rfl⟩
  have E : Er K mg := ⟨hE, by
    intro q hq
    simp only [errs, List.mem_cons, List.not_mem_nil, or_false] at hq
    rcases hq with rfl | rfl | rfl | rfl | rfl | rfl | rfl | rfl | rfl | rfl | rfl
    · exact gl 1 rfl
    · exact gl 2 rfl
    · exact gl 3 rfl
    · exact gl 4 rfl
    · exact gl 5 rfl
    · exact gl 6 rfl
    · exact gl 7 rfl
    · exact gl 8 rfl
    · exact gl 9 rfl
    · exact gl 10 rfl
    · exact gl 11 rfl, gl 0 rfl, baseB_ok x1⟩
  obtain ⟨fdBadText, FBadText⟩ := sd.def_ 0 rfl
  have bBadText : Binds K fdBadText ["self", "line", "word"] [] := FBadText.bindsN fun _ _ _ _ _ _ us hl => match us, hl with | [_, _, _], _ => rfl
  obtain ⟨fdBadName, FBadName⟩ := sd.def_ 1 rfl
  have bBadName : Binds K fdBadName ["self", "name"] [] := FBadName.bindsN fun _ _ _ _ _ _ us hl => match us, hl with | [_, _], _ => rfl
  obtain ⟨fdBadNumber, FBadNumber⟩ := sd.def_ 2 rfl
  have bBadNumber : Binds K fdBadNumber ["self", "what", "number"] [] := FBadNumber.bindsN fun _ _ _ _ _ _ us hl => match us, hl with | [_, _, _], _ => rfl
  obtain ⟨fdBadRow, FBadRow⟩ := sd.def_ 3 rfl
  have bBadRow : Binds K fdBadRow ["self", "what", "row"] [] := FBadRow.bindsN fun _ _ _ _ _ _ us hl => match us, hl with | [_, _, _], _ => rfl
  obtain ⟨fdNoName, FNoName⟩ := sd.def_ 4 rfl
  have bNoName : Binds K fdNoName ["self", "name"] [] := FNoName.bindsN fun _ _ _ _ _ _ us hl => match us, hl with | [_, _], _ => rfl
  obtain ⟨fdTakenName, FTakenName⟩ := sd.def_ 5 rfl
  have bTakenName : Binds K fdTakenName ["self", "name"] [] := FTakenName.bindsN fun _ _ _ _ _ _ us hl => match us, hl with | [_, _], _ => rfl
  obtain ⟨fdUnlike, FUnlike⟩ := sd.def_ 6 rfl
  have bUnlike : Binds K fdUnlike ["self", "what"] [] := FUnlike.bindsN fun _ _ _ _ _ _ us hl => match us, hl with | [_, _], _ => rfl
  obtain ⟨fdTooMany, FTooMany⟩ := sd.def_ 7 rfl
  have bTooMany : Binds K fdTooMany ["self", "what", "many", "limit"] [] := FTooMany.bindsN fun _ _ _ _ _ _ us hl => match us, hl with | [_, _, _, _], _ => rfl
  obtain ⟨fdNotKept, FNotKept⟩ := sd.def_ 8 rfl
  have bNotKept : Binds K fdNotKept ["self", "promise", "witness"] [] := FNotKept.bindsN fun _ _ _ _ _ _ us hl => match us, hl with | [_, _, _], _ => rfl
  obtain ⟨fdNothingToUndo, FNothingToUndo⟩ := sd.def_ 9 rfl
  have bNothingToUndo : Binds K fdNothingToUndo ["self"] [] := FNothingToUndo.bindsN fun _ _ _ _ _ _ us hl => match us, hl with | [_], _ => rfl
  obtain ⟨fdNothingToRedo, FNothingToRedo⟩ := sd.def_ 10 rfl
  have bNothingToRedo : Binds K fdNothingToRedo ["self"] [] := FNothingToRedo.bindsN fun _ _ _ _ _ _ us hl => match us, hl with | [_], _ => rfl
  obtain ⟨fd_law_pen, F_law_pen⟩ := sd.def_ 11 rfl
  have N_law_pen : At K mg "_law_pen" (He.ga K "_law_pen") fd_law_pen ["script"] := ⟨gl 12 rfl, F_law_pen.kp, F_law_pen.bindsN fun _ _ _ _ _ _ us hl => match us, hl with | [_], _ => rfl⟩
  obtain ⟨fd_law_draw, F_law_draw⟩ := sd.def_ 12 rfl
  have N_law_draw : At K mg "_law_draw" (He.ga K "_law_draw") fd_law_draw ["pen", "many"] := ⟨gl 13 rfl, F_law_draw.kp, F_law_draw.bindsN fun _ _ _ _ _ _ us hl => match us, hl with | [_, _], _ => rfl⟩
  obtain ⟨fd_law_pick, F_law_pick⟩ := sd.def_ 13 rfl
  have N_law_pick : At K mg "_law_pick" (He.ga K "_law_pick") fd_law_pick ["pen", "some"] := ⟨gl 14 rfl, F_law_pick.kp, F_law_pick.bindsN fun _ _ _ _ _ _ us hl => match us, hl with | [_, _], _ => rfl⟩
  obtain ⟨fd_law_value, F_law_value⟩ := sd.def_ 14 rfl
  have N_law_value : At K mg "_law_value" (He.ga K "_law_value") fd_law_value ["pen"] := ⟨gl 15 rfl, F_law_value.kp, F_law_value.bindsN fun _ _ _ _ _ _ us hl => match us, hl with | [_], _ => rfl⟩
  obtain ⟨fd_law_classes, F_law_classes⟩ := sd.def_ 15 rfl
  have N_law_classes : At K mg "_law_classes" (He.ga K "_law_classes") fd_law_classes ["e"] := ⟨gl 16 rfl, F_law_classes.kp, F_law_classes.bindsN fun _ _ _ _ _ _ us hl => match us, hl with | [_], _ => rfl⟩
  obtain ⟨fd_law_more_kinds, F_law_more_kinds⟩ := sd.def_ 16 rfl
  have N_law_more_kinds : At K mg "_law_more_kinds" (He.ga K "_law_more_kinds") fd_law_more_kinds ["e"] := ⟨gl 17 rfl, F_law_more_kinds.kp, F_law_more_kinds.bindsN fun _ _ _ _ _ _ us hl => match us, hl with | [_], _ => rfl⟩
  obtain ⟨fd_law_fall, F_law_fall⟩ := sd.def_ 17 rfl
  have N_law_fall : At K mg "_law_fall" (He.ga K "_law_fall") fd_law_fall ["kind", "one", "two", "three"] := ⟨gl 18 rfl, F_law_fall.kp, F_law_fall.bindsN fun _ _ _ _ _ _ us hl => match us, hl with | [_, _, _, _], _ => rfl⟩
  obtain ⟨fd_law_other_fall, F_law_other_fall⟩ := sd.def_ 18 rfl
  have N_law_other_fall : At K mg "_law_other_fall" (He.ga K "_law_other_fall") fd_law_other_fall ["kind", "one", "two", "three"] := ⟨gl 19 rfl, F_law_other_fall.kp, F_law_other_fall.bindsN fun _ _ _ _ _ _ us hl => match us, hl with | [_, _, _, _], _ => rfl⟩
  obtain ⟨fd_law_fields, F_law_fields⟩ := sd.def_ 19 rfl
  have N_law_fields : At K mg "_law_fields" (He.ga K "_law_fields") fd_law_fields ["kind", "e"] := ⟨gl 20 rfl, F_law_fields.kp, F_law_fields.bindsN fun _ _ _ _ _ _ us hl => match us, hl with | [_, _], _ => rfl⟩
  obtain ⟨fd_law_one, F_law_one⟩ := sd.def_ 20 rfl
  have N_law_one : At K mg "_law_one" (He.ga K "_law_one") fd_law_one ["kind", "one", "two", "three"] := ⟨gl 21 rfl, F_law_one.kp, F_law_one.bindsN fun _ _ _ _ _ _ us hl => match us, hl with | [_, _, _, _], _ => rfl⟩
  obtain ⟨fdlaw, Flaw⟩ := sd.def_ 21 rfl
  have Nlaw : At K mg "law" (He.ga K "law") fdlaw ["script"] := ⟨gl 22 rfl, Flaw.kp, Flaw.bindsN fun _ _ _ _ _ _ us hl => match us, hl with | [_], _ => rfl⟩
  have e := hfa.symm.trans Nlaw.1
  cases e
  refine ⟨fdlaw, fun s v => FunD.bindsA (ps := ["script"]) Flaw (fun _ _ _ _ _ _ us hl => match us, hl with | [_], _ => rfl) s [v] rfl, fun base _ _ => ?_⟩
  have I : Inits P w K mg base := ⟨⟨fdBadText, ok_BadText (fun_of FBadText) E.base E.gB E.rBadText, bBadText⟩, ⟨fdBadName, ok_BadName (fun_of FBadName) E.base E.gB E.rBadName, bBadName⟩, ⟨fdBadNumber, ok_BadNumber (fun_of FBadNumber) E.base E.gB E.rBadNumber, bBadNumber⟩, ⟨fdBadRow, ok_BadRow (fun_of FBadRow) E.base E.gB E.rBadRow, bBadRow⟩, ⟨fdNoName, ok_NoName (fun_of FNoName) E.base E.gB E.rNoName, bNoName⟩, ⟨fdTakenName, ok_TakenName (fun_of FTakenName) E.base E.gB E.rTakenName, bTakenName⟩, ⟨fdUnlike, ok_Unlike (fun_of FUnlike) E.base E.gB E.rUnlike, bUnlike⟩, ⟨fdTooMany, ok_TooMany (fun_of FTooMany) E.base E.gB E.rTooMany, bTooMany⟩, ⟨fdNotKept, ok_NotKept (fun_of FNotKept) E.base E.gB E.rNotKept, bNotKept⟩, ⟨fdNothingToUndo, ok_NothingToUndo (fun_of FNothingToUndo) E.base E.gB E.rNothingToUndo, bNothingToUndo⟩, ⟨fdNothingToRedo, ok_NothingToRedo (fun_of FNothingToRedo) E.base E.gB E.rNothingToRedo, bNothingToRedo⟩⟩
  have Gp := ok_pen (P := P) (w := w) (mg := mg) (base := base) (fun_of F_law_pen) T
  have Gd := ok_draw (P := P) (w := w) (mg := mg) (base := base) (fun_of F_law_draw) T
  have Gk := ok_pick (P := P) (w := w) (mg := mg) (base := base) (fun_of F_law_pick) T Gd N_law_draw
  have Gv := ok_val (P := P) (w := w) (mg := mg) (base := base) (fun_of F_law_value) Gd N_law_draw Gk N_law_pick
  have Gm := oksM (P := P) (w := w) (mg := mg) (base := base) (fun_of F_law_more_kinds) E T
  have Gc := oksC (P := P) (w := w) (mg := mg) (base := base) (fun_of F_law_classes) E T Gm N_law_more_kinds
  have Go := oksO (P := P) (w := w) (mg := mg) (base := base) (fun_of F_law_other_fall) E I
  have Gf := oksF (P := P) (w := w) (mg := mg) (base := base) (fun_of F_law_fall) E I Go N_law_other_fall
  have Gg := oksG (P := P) (w := w) (mg := mg) (base := base) (fun_of F_law_fields) E
  have G1 := ok_one (P := P) (w := w) (mg := mg) (base := base) (fun_of F_law_one) E T Gf N_law_fall Gc N_law_classes Gg N_law_fields
  exact ok_law (fun_of Flaw) T Gp N_law_pen Gv N_law_value G1 N_law_one
end Lw
open PySem PySem.W PySem.Calls PyProof.Rows
theorem PySem.Challenge.cw_foldkept_k00_errors_as_told_holds : PySem.Challenge.rw_foldkept_k00_errors_as_told.Holds := by
  w_on; o_law
  refine HandSHeadRun.head_any (r := OpenLaw.row PySem.Challenge.rw_foldkept_k00_errors_as_told) (q := view (OpenLaw.row PySem.Challenge.rw_foldkept_k00_errors_as_told).prog [24]) (H := Lw.hk) (ob := Lw.ob) (M := 4000) (loose := Lw.loose)
    (d := HandSHeadRun.topDef (OpenLaw.row PySem.Challenge.rw_foldkept_k00_errors_as_told).prog 24) (kwd := []) Lw.ob_eq
    (by kernel_rfl) (fun s => by kernel_rfl) Lw.run (by kernel_rfl) (by kernel_rfl) (by kernel_rfl) (by rfl) (by first | assumption | decide +kernel) (by decide +kernel) ⟨rfl, rfl, rfl, rfl, rfl, by decide +kernel⟩ ?hw ?hc
  case hw => w_witness2
  case hc =>
    refine Fk.walk_G (l := PySem.Challenge.rw_foldkept_k00_errors_as_told) (n := 63) (k := 6) (x := "script") (Z := L2.CX0) rfl (by decide) (by kernel_rfl) ⟨rfl, by decide, by decide⟩ ?F (fun _ _ _ _ z => z)
    intro w mg fa h Y G hmg0
    obtain ⟨K, KX, c⟩ := Y
    have hmg : mg ("law" : PySem.Str) = some (.ref fa) := by
      have e : (HandSHeadRun.topDef (OpenLaw.row PySem.Challenge.rw_foldkept_k00_errors_as_told).prog 24).name = ("law" : PySem.Str) := by kernel_rfl
      rw [← e]
      exact hmg0
    obtain ⟨fd, hb, hF⟩ := Lw.facts (P := (PySem.Challenge.rw_foldkept_k00_errors_as_told).prog) (w := w) KX G hmg c
    exact ⟨K, fd, Lw.spLaw K, KX, hb, fun H a ns hl _ hS => ⟨a, ns, rfl, hS, fun _ => rfl⟩, hF⟩

