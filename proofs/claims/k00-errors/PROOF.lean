import PyProof.Rows.All
import Wide.All
import OpenK.AllK
import Wide.FinOn
import KE.KExcIs
import KE.KFromBytes
import HandS.ForMost
import HandS.Exc
import HandS.ExcInit
import HandS.ExcField
import HandS.HotCalls
import HandS.TryOnly
import HandS.WordsExc
import HandS.Lambda
import HandS.EndTab
import HandS.EndBits
import HandS.HeadHook4
import HandS.ExcIs
import PyProof.ReprRoads
import HandS.Head0
import HandS.Head1
import HandS.Head2
import HandS.Style
import HandS.Flow
import HandS.Conv
import HandS.TupAny
import HandS.IsInst
import HandS.Zip
import HandS.Deep
import HandS.Codes
import PySem.Challenge.RW_treeclaims_k00_errors_as_told
import HandS.HeadEnd
import HandS.HeadHook1
import HandS.HeadHook2
import KE.KStateDown
set_option Elab.async false
set_option linter.all false
set_option maxRecDepth 100000
set_option maxHeartbeats 0
/-! Treeclaims: what the layer lacks. Promises of defs that may lean on pinned objects and on what runs around. -/
namespace Tc
open PySem PySem.Spec PyProof.Rows L2
open L2H (RoomH PinOk)

abbrev Pins := List (Addr × Obj)
/-- nothing is handled, no guard stands around -/
def Quiet (A : Around) : Prop := A.handled = none ∧ A.guards = some []
def AnyA (_ : Around) : Prop := True
theorem Quiet.deep {A : Around} (q : Quiet A) (env : Env) : Quiet (A.deeper env) := q
theorem Quiet.one {A : Around} (q : Quiet A) : Quiet A.in1 := q

/-- a def's promise, by the pins that it is handed and what runs around it -/
structure FnG (P : Program) (w : World) (K : PySem.W.Frag) (mg : Str → Option Value) (base : Heap) (CX : CXT) (Γ : Around → Prop) (k : Nat) (f : Addr) (fd : FuncData) (ps : List Str) (sp : Pins → Sp) : Prop where
  many : ∀ pn vs H Q E, sp pn vs H Q E → vs.length = ps.length
  go : ∀ (pn : Pins) (A : Around) (outer : List Env) (s : Shared) (H : Hp) (args : Args) (us : List Value) (vs : List V) (Q : VK) (E : XK), RoomH k A → Γ A → (∀ p ∈ pn, PinOk outer H s p) →
    Env0 P w K mg base A outer s H → BindsTo s fd args (ps.zip us) → Vals vs us → sp pn vs H Q E → codeAny (model P w) A (.call (.ref f) args) (CR CX outer P w H s Q E) s

/-- the body's context -/
def cxG (calm : Bool) (pn : Pins) (CX : CXT) (P : Program) (w : World) (K : PySem.W.Frag) (mg : Str → Option Value) (base : Heap) (N : List Str) (qual : Str) (scope : Scope) (f : Addr) (cd : Value) (A : Around) (outer : List Env) (s : Shared) (H : Hp) (E : XK) : Cx :=
  { cxOf CX P w K mg base N qual scope f cd A outer s H E with calm := calm, pn := pn }

section
variable {CX : CXT} {P : Program} {w : World} {K : PySem.W.Frag} {mg : Str → Option Value} {base : Heap} {N ps : List Str} {qual : Str} {scope : Scope} {f : Addr} {cd : Value} {A : Around} {outer : List Env} {s s1 : Shared} {H : Hp} {E : XK} {us : List Value} {vs : List V} {calm : Bool} {pn : Pins}
/-- from the plain context's state to one with pins, whatever is handled -/
theorem inv_startG (S : FnScope N ps scope) (hd : calm = true → A.handled = none) (hp : ∀ p ∈ pn, PinOk outer H s p) (e0 : Env0 P w K mg base A outer s H) (hl : vs.length = ps.length) (r : Vals vs us)
    (x : InCallC s s.heap.objs.size (bindL (envOfC qual scope s.heap.objs.size f cd).kindOf (ps.zip us) fun _ => none) (cellsFrom (s.heap.objs.size + 1) scope.names []) (bindC (envOfC qual scope s.heap.objs.size f cd).kindOf (ps.zip us) fun _ => none) s1) :
    Inv (cxG calm pn CX P w K mg base N qual scope f cd A outer s H E) [] (start N vs) H s1 := by
  have hk := x.toInCall.keep
  cases pn with
  | nil =>
    cases calm with
    | true => exact inv_start S (hd rfl) e0 hl r x
    | false =>
      have e1 : Env0 P w K mg base { A with handled := none } outer s H := ⟨e0.frames, e0.mod, e0.bs, e0.bsz, e0.funs, e0.frf, e0.hok, e0.bare⟩
      have I := inv_start (A := { A with handled := none }) (CX := CX) (E := E) S rfl e1 hl r x
      obtain ⟨⟨a1, a2, a3, a4, a5, a6, a7, a8, a9, a10, a11, a12, a13, a14, a15, a16, a17, a18⟩, b1, b2, b3, b4, b5, b6, b7, b8, b9, b10⟩ := I
      exact ⟨⟨a1, a2, a3, a4, a5, a6, a7, a8, fun z => (nomatch (show false = true from z)), Around.frames_deeper e0.frames, a11, a12, a13, a14, a15, a16, a17, a18⟩, b1, b2, b3, b4, b5, b6, b7, b8, b9, b10⟩
  | cons p0 pr =>
    have e1 : Env0 P w K mg base { A with handled := none } outer s H := ⟨e0.frames, e0.mod, e0.bs, e0.bsz, e0.funs, e0.frf, e0.hok, e0.bare⟩
    have I := inv_start (A := { A with handled := none }) (CX := CX) (E := E) S rfl e1 hl r x
    obtain ⟨⟨a1, a2, a3, a4, a5, a6, a7, a8, a9, a10, a11, a12, a13, a14, a15, a16, a17, a18⟩, b1, b2, b3, b4, b5, b6, b7, b8, b9, b10⟩ := I
    refine ⟨⟨a1, a2, a3, a4, a5, a6, a7, a8, fun z => hd z, Around.frames_deeper e0.frames, a11, a12, a13, a14, a15, a16, a17, a18⟩, b1, b2, b3, b4, b5, b6, b7, fun q hq => ?_, b9, b10⟩
    have hq2 : q ∈ p0 :: pr := by
      rcases List.mem_append.mp hq with z | z
      · exact z
      · cases z
    have o := hp q hq2
    exact ⟨hk _ _ o.get, o.free, Nat.ne_of_lt (Heap.lt_size o.get), o.nofs, o.nocell⟩
end

/-- THE RULE for such a def -/
theorem fn_ofG {CX : CXT} {P : Program} {w : World} {K : PySem.W.Frag} {mg : Str → Option Value} {base : Heap} {Γ : Around → Prop} {calm : Bool} {k : Nat} {f : Addr} {name qual : Str} {params : Arguments} {body : List Stmt} {scope : Scope} {dV kV doc pm cdv ct oc : Value} {an od : Option Addr}
    {osl : Array (Option Value)} {N ps : List Str} {sp : Pins → Sp} (lk : K.lookup f = some ⟨oc, od, .func (PySem.W.fnOf name qual params body scope dV kV doc pm an cdv ct), osl⟩) (hcd : PySem.W.codeIn K cdv qual = true) (S : FnScope N ps scope)
    (hΓ : ∀ A, Γ A → calm = true → A.handled = none) (many : ∀ pn vs H Q E, sp pn vs H Q E → vs.length = ps.length)
    (hbody : ∀ (pn : Pins) (A : Around) (outer : List Env) (s : Shared) (H : Hp) (vs : List V) (Q : VK) (E : XK), Γ A → RoomH k (A.deeper (envOfC qual scope s.heap.objs.size f cdv)) → sp pn vs H Q E →
      ∃ t, PSs (cxG calm pn CX P w K mg base N qual scope f cdv A outer s H E) body t ∧ t { nx := fun _ H' => Q .non H', rt := Q } (start N vs) H) :
    FnG P w K mg base CX Γ (k + 1) f (PySem.W.fnOf name qual params body scope dV kV doc pm an cdv ct) ps sp := by
  refine ⟨many, fun pn A outer s H args us vs Q E room g pins e0 bind rel want => ?_⟩
  have hl := many _ _ _ _ _ want
  have inK : K.In s.heap := e0.mod.kin.keeps fun b o e => (e0.bs b o e).1
  have lim : s.heap.NoLimit := e0.mod.nolimit.keeps fun b o e => (e0.bs b o e).1
  refine codeAny_call_function room.depth (inK _ _ lk) rfl S.co S.gen rfl (PySem.W.codeRec_of inK hcd) (bind _ _ _ _ ?_)
  have kinds : ∀ y ∈ ps.zip us, scope.names.lookup y.1 = some .local ∨ (scope.names.lookup y.1 = some .cell ∧ ((cellsFrom (s.heap.objs.size + 1) scope.names []).lookup y.1).isSome = true) := by
    rintro ⟨n, v⟩ hy
    have q := S.par n (List.of_mem_zip hy).1
    exact q.elim .inl fun c => .inr ⟨c, PySem.W.cellsFrom_some _ _ _ (.inl c)⟩
  refine wpAny_newFunctionEnv_cells S.kind kinds fun env he s1 x => ?_
  subst he
  obtain ⟨t, ht, hq⟩ := hbody pn A outer s H vs Q E g (room.deeper _) want
  have I : Inv (cxG calm pn CX P w K mg base N qual scope f cdv A outer s H E) [] (start N vs) H s1 := inv_startG S (hΓ A g) pins e0 hl rel x
  refine ⟨lim.keeps x.toInCall.keep, codeAny_func (wpAny_mono (ht.run [] s1 (start N vs) H _ I hq) (fun fl s' hs => ?_) fun e s' z => z)⟩
  cases fl with
  | next => obtain ⟨σ', H', J, q⟩ := hs; exact ⟨.non, H', J.os, J.bare, J.base, J.hok, rfl, q⟩
  | ret u => obtain ⟨v, σ', H', J, rv, q⟩ := hs; exact ⟨v, H', J.os, J.bare, J.base, J.hok, rv, q⟩
  | brk => obtain ⟨_, _, _, q⟩ := hs; exact q.elim
  | cont => obtain ⟨_, _, _, q⟩ := hs; exact q.elim

/-- by the short words of a def -/
theorem funG {P : Program} {w : World} {K : PySem.W.Frag} {mg : Str → Option Value} {base : Heap} {CX : CXT} {Γ : Around → Prop} {calm : Bool} {x qual : Str} {st : Stmt} {f : Addr} {fd : FuncData} {N ps : List Str} {k : Nat} {sp : Pins → Sp} (F : Fun K x qual st f fd) (S : FnScope N ps (defScope st))
    (hΓ : ∀ A, Γ A → calm = true → A.handled = none) (many : ∀ pn vs H Q E, sp pn vs H Q E → vs.length = ps.length)
    (hbody : ∀ (cdv : Value) (pn : Pins) (A : Around) (outer : List Env) (s : Shared) (H : Hp) (vs : List V) (Q : VK) (E : XK), Γ A → RoomH k (A.deeper (envOfC qual (defScope st) s.heap.objs.size f cdv)) → sp pn vs H Q E →
      ∃ t, PSs (cxG calm pn CX P w K mg base N qual (defScope st) f cdv A outer s H E) (defBody st) t ∧ t { nx := fun _ H' => Q .non H', rt := Q } (start N vs) H) : FnG P w K mg base CX Γ (k + 1) f fd ps sp := by
  obtain ⟨oc, od, kV, doc, pm, an, cdv, ct, osl, rfl, lk, hcd⟩ := F.ex
  exact fn_ofG lk hcd S hΓ many fun pn A outer s H vs Q E g hr h => hbody cdv pn A outer s H vs Q E g hr h

/-- a plain promise is one of these -/
theorem FnG.of_ok {P : Program} {w : World} {K : PySem.W.Frag} {mg : Str → Option Value} {base : Heap} {CX : CXT} {Γ : Around → Prop} {k : Nat} {f : Addr} {fd : FuncData} {ps : List Str} {sp : Sp} (F : FnOk P w K mg base CX k f fd ps sp) (hΓ : ∀ A, Γ A → A.handled = none) :
    FnG P w K mg base CX Γ k f fd ps (fun _ => sp) :=
  ⟨fun _ vs H Q E h => F.len vs H Q E h, fun _ A outer s H args us vs Q E r g _ e0 b rv h => F.run A outer s H args us vs Q E ⟨hΓ A g, r.dp, r.un⟩ e0 b rv h⟩

section
variable {X : Cx} {CX : CXT} {Γ : Around → Prop} {k : Nat} {f : Addr} {fd : FuncData} {ps : List Str} {sp : Pins → Sp} {E : L2.St → XK} {x : Str} {q pos : Pos} {e : Expr} {es : List Expr} {t : TA} {pn : Pins}
/-- the callee runs, the pins pn handed on -/
theorem run_fnG {pins : Pins} {σ : L2.St} {H : Hp} {s : Shared} {Q : VK} {us : List Value} {vs : List V} (F : FnG X.prog X.w X.K X.mg X.base CX Γ k f fd ps sp) (hr : RoomH k X.A) (g : Γ X.A) (hpn : ∀ p ∈ pn, p ∈ X.pn) (hb : Binds X.K fd ps [])
    (hx : PassesAt CX X σ (E σ)) (I : Inv X pins σ H s) (r : Vals vs us) (h : sp pn vs H Q (E σ)) : wpAny (model X.prog X.w) X.A (call (.ref f) us) (EP X pins σ Q) X.xe s := by
  have hl : us.length = ps.length := by rw [← r.length]; exact F.many _ _ _ _ _ h
  have b := hb s us I.kIn (by rw [List.append_nil]; exact hl)
  rw [List.append_nil] at b
  have po : ∀ p ∈ pn, PinOk X.stack H s p := fun p hp => by
    obtain ⟨h1, h2, h3, h4, h5⟩ := I.pin p (List.mem_append_left _ (hpn p hp))
    exact ⟨h1, h2, fun hm => (List.mem_cons.mp (I.stkSub p.1 hm)).elim h3 h4, h5⟩
  refine wpAny_call (codeAny_mono (F.go pn X.A X.stack s H ⟨us, []⟩ us vs Q (E σ) hr g po I.env0 b r h) fun r s' hq => ?_)
  match r, hq with
  | .error e, hq => exact hx pins H s e s' I hq
  | .ok (.ret u), hq => exact I.after hq
theorem pe_callG (F : FnG X.prog X.w X.K X.mg X.base CX Γ k f fd ps sp) (hr : RoomH k X.A) (g : Γ X.A) (hpn : ∀ p ∈ pn, p ∈ X.pn) (hg : Gl X x) (hm : X.mg x = some (.ref f)) (hk : PySem.W.keepIn X.K (.ref f) = true) (hb : Binds X.K fd ps [])
    (hx : ∀ σ, PassesAt CX X σ (E σ)) (ha : PA X (e :: es) t) (hdb : (x == ("__debug__" : Str)) = false := by decide) (he : starEach (e :: es) X.env = (false, eval e X.env) :: starEach es X.env := by rfl) (hpl : (backTo pos (starEach es X.env)).any (·.1) = false := by rfl) :
    PE X (.Call (.Name x q) (e :: es) [] pos) (tCallS (sp pn) E t) := by
  refine ⟨fun pins s σ H Q I h => wpAny_Call_Name_kw (ld_glob I hg hm ?_ hdb)⟩
  refine PySem.W.callWith_K (h₀ := X.base) I.ok.mod.kin hk (thn (ha.run pos pins s σ H _ I h) fun us s1 ⟨vs, H1, I1, r, z⟩ => ⟨I1.kIn, ?_⟩) he hpl
  exact run_fnG F hr g hpn hb (hx σ) I1 r z
end
end Tc
namespace Tc
open PySem PySem.Spec PyProof.Rows L2
open L2H (RoomH PinOk)

/-! ### C0.__init__(self, ..) where C0 is an own class over ValueError without one of its own -/
structure BaseC (K : PySem.W.Frag) (C : Addr) : Prop where
  special : PySem.W.specialIn K (.ref C) "__getattribute__" = some (some (.builtin "type.__getattribute__"))
  reads : PySem.W.readsIn K C (.type "type") = true
  finds : PySem.W.findCls K (.ref C) (.type "type") "__init__" = some (.val (.builtin "ValueError.__init__"))
section
variable {X : Cx} {x : Str} {C0 : Addr} {e : Expr} {es : List Expr} {ta : TA} {p1 p2 pos : Pos}
theorem pe_basei {pl : Sem Bool} (hg : Gl X x) (hm : X.mg x = some (.ref C0)) (B : BaseC X.K C0) (ha : PA X (e :: es) ta)
    (hc : eval (.Call (.Attribute (.Name x p1) "__init__" p2) (e :: es) [] pos) X.env = (do
      let o ← eval (.Name x p1) X.env
      standAt p2.atName
      let (f, first) ← holding [o] (getMethod o "__init__" pl)
      callWith pos f first (backTo pos (starEach (e :: es) X.env)) (backToKw pos (keywordEach [] X.env))) := by rfl)
    (he : starEach (e :: es) X.env = (false, eval e X.env) :: starEach es X.env := by rfl) (hpl : (backTo pos (starEach es X.env)).any (·.1) = false := by rfl)
    (hdb : (x == ("__debug__" : Str)) = false := by decide) :
    PE X (.Call (.Attribute (.Name x p1) "__init__" p2) (e :: es) [] pos) (tVeI X.K ta) := by
  refine ⟨fun pins s σ H Q I h => PySem.W.methodCall_KW (ld_glob I hg hm ?_ hdb) hc⟩
  refine PySem.W.method_cls I.kIn B.special (PySem.W.cls_value I.kIn B.reads B.finds rfl ?_)
  refine PyProof.Rows.callWith_method1 (thn (ha.run pos pins _ σ H _ (I.tok _) h) fun us s1 q1 => ?_) he hpl
  obtain ⟨vs, H1, I1, r1, a, C, ws, ev, hl, T, ea, q⟩ := q1
  subst ev
  cases r1 with
  | @cons _ u0 _ ur ra rr =>
    have ez : u0 = Value.ref a := ra
    subst ez
    refine oinit_ok T I1 ea ?_ fun s' J => ⟨.non, H1, J, rfl, q⟩
    have h1 := Paired.length rr
    have h2 := sizeLine_eq
    omega
end

/-! ### an exception without fields is made -/
section
variable {X : Cx} {pins : Pins} {σ : L2.St}
theorem bare_made {H1 H2 : Hp} {Q : XK} {hp hp2 h2 : Heap} {g1 g2 : Array GenState} {d1 d2 : Drawn} {t1 t2 : Nat} {os1 os2 : OsState} {a C : Addr} (T : Raises X (.ref C)) (I1 : Inv X pins σ H1 ⟨hp, g1, d1, t1, os1⟩)
    (ha : hp.objs.size ≤ a) (kp : ∀ b o, hp.get? b = some o → hp2.get? b = some o) (un : Un (frs X.stack) [] (upd H1 a (exo a C none)) H2 hp2 h2) (hok : HOk X.prog X.w H2 h2) (ho : os2 = os1) (hb : AllBare g2)
    (ea : H2 a = some (exo a C none)) (q : Q (.ref C) none (del H2 a)) : MkP X pins σ Q (.ref a) ⟨h2, g2, d2, t2, os2⟩ := by
  obtain ⟨t0, hoe⟩ := exo_at hok ea
  have n1 : H1 a = none := I1.hok.fresh ha
  obtain ⟨G, gy, gn⟩ := restrict h2 fun b => decide (b ≠ a)
  have at_ : ∀ b, b ≠ a → G.get? b = h2.get? b := fun b hb => gy b (decide_eq_true hb)
  have out : G.get? a = none := gn a (by simp)
  have nea : ∀ {b : Addr} {o : Obj}, hp.get? b = some o → b ≠ a := fun {b o} z e => by
    have h1 := Heap.lt_size z
    rw [e] at h1
    exact absurd (Nat.lt_of_lt_of_le h1 ha) (Nat.lt_irrefl _)
  have same : ∀ {b : Addr} {u : Option HO}, b ≠ a → H1 b = u → upd H1 a (exo a C none) b = u := fun {b u} hb n => (upd_ne hb).trans n
  have dl : ∀ {b : Addr} {u : Option HO}, b ≠ a → H2 b = u → del H2 a b = u := fun {b u} hb n => (del_ne hb).trans n
  have nof : ∀ {b : Addr} {u : HO}, H1 b = some u → b ≠ a := fun {b u} z => ne_of_none z n1
  have U : Un (frs X.stack) [] H1 (del H2 a) hp G := by
    constructor
    · intro b o z n hf hx; rw [at_ b (nea z)]; exact un.keep b o (kp b o z) (same (nea z) n) hf hx
    · intro b o z n hf hx; rw [at_ b (nea z)]; exact un.slot b o (kp b o z) (same (nea z) n) hf hx
    · intro b o z n hx; exact dl (nea z) (un.free b o (kp b o z) (same (nea z) n) hx)
    · intro b o z hx; rw [at_ b (nea z)]; exact un.there b o (kp b o z) hx
    · intro b xs z; exact dl (nof z) (un.tups b xs (same (nof z) z))
    · intro b o v z; exact dl (nof z) (un.frzs b o v (same (nof z) z))
    · intro b ps z
      obtain ⟨more, e⟩ := un.tbls b ps (same (nof z) z)
      exact ⟨more, dl (nof z) e⟩
  have hok3 : HOk X.prog X.w (del H2 a) G := fun b o z => by
    have hba : b ≠ a := fun e => by
      rw [e, del_same] at z
      cases z
    rw [del_ne hba] at z
    have noown : ∀ {c : Addr}, H2 c = some (.own b) → c ≠ a := fun {c} hc => at_ne ea hc exo_own
    refine (hok b o z).stay (fun c v hc y => ?_) (fun c hc => dl (noown hc) hc) fun c xs hc => dl (at_ne ea hc exo_tup) hc
    have hca : c ≠ a := hc.elim (fun e => by rw [e]; exact hba) noown
    rw [at_ c hca]
    exact y
  have J : Inv X pins σ (del H2 a) ⟨G, g2, d2, t2, os2⟩ := I1.call' (ch := []) ho U hok3 hb fun b z => absurd z (by simp)
  refine ⟨a, _, _, ⟨G, g2, d2, t2, os2⟩, del H2 a, .ref C, none, rfl, J, fun b o z => ?_, out, hoe, ⟨rfl, rfl⟩, rfl, rfl, del_same, rfl, hb, T, q⟩
  by_cases hba : b = a
  · have z2 : G.get? b = some o := z
    rw [hba, out] at z2
    cases z2
  · exact (at_ b hba).symm.trans z
/-- C(), C's own __init__ keeping sp, no field stored -/
def tMkB (C : Addr) (sp : Sp) : L2.St → Hp → XK → Prop := fun _ H Q => ∀ a, H a = none → sp [.ref a] (upd H a (exo a C none)) (fun v H2 => v = .non ∧ H2 a = some (exo a C none) ∧ Q (.ref C) none (del H2 a)) (fun _ _ _ => False)
theorem pmk_bare {CX : CXT} {x : Str} {C fI : Addr} {k : Nat} {fd : FuncData} {ps : List Str} {sp : Sp} {p pos : Pos} (T : OexC X.K C) (iC : PySem.W.findIn X.K (.ref C) "__init__" = some (some (.ref fI))) (tI : PySem.W.typeIn X.K (.ref fI) = some (.type "function"))
    (F1 : FnOk X.prog X.w X.K X.mg X.base CX k fI fd ps sp) (hr : Room (k + 1) X.A) (hb : Binds X.K fd ps []) (hx : Passes CX X (fun _ _ _ => False)) (hg : Gl X x) (hm : X.mg x = some (.ref C))
    (hdb : (x == ("__debug__" : Str)) = false := by decide) : PMk X (.Call (.Name x p) [] [] pos) (tMkB C sp) := by
  intro pins s σ H Q I h
  obtain ⟨nm, q, N, bs, bm, sn, sub, ab, col, dd, k0, k1, k2, k3, k5, hC, hbm⟩ := T.cls
  refine wpAny_Call_Name_kw (ld_glob I hg hm (PySem.W.callWith_K0 I.kIn T.kC ?_) hdb)
  obtain ⟨hp, g, dr, tk, os⟩ := s
  have fresh : hp.objs.size ≤ hp.objs.size + 1 := Nat.le_succ _
  have hq := h (hp.objs.size + 1) (I.hok.fresh fresh)
  have grow : ∀ b o, hp.get? b = some o → ((hp.push (PySem.W.kdv_tup [])).push (PySem.HandSPX.excO C hp.objs.size)).get? b = some o := fun b o e => Heap.get?_push_of_some _ (Heap.get?_push_of_some _ e)
  have hget : ((hp.push (PySem.W.kdv_tup [])).push (PySem.HandSPX.excO C hp.objs.size)).get? (hp.objs.size + 1) = some (PySem.HandSPX.excO C hp.objs.size) := by heap_get
  have I2 := I.laid (t' := tk) (a := hp.objs.size + 1) (o := exo (hp.objs.size + 1) C none) (h' := (hp.push (PySem.W.kdv_tup [])).push (PySem.HandSPX.excO C hp.objs.size)) grow fresh (exo_ok hget)
  have hl : ([Value.ref (hp.objs.size + 1)] ++ []).length = ps.length := by
    have e := F1.len _ _ _ _ hq
    simpa using e
  have b2 := hb _ [Value.ref (hp.objs.size + 1)] I2.kIn hl
  refine wpAny_call (PySem.HandSPX.call_own F.excBase_ValueError (fun Y => PySem.HandSPX.refsVE_contains Y bm hbm) (I.kIn _ _ hC) (PySem.W.looks_findIn I.kIn iC) (fun self => PySem.W.bind_fn I.kIn self tI) (by rw [sizeLine_eq]; decide)
    (codeAny_mono (F1.run _ X.stack _ _ ⟨[Value.ref (hp.objs.size + 1)], []⟩ ([Value.ref (hp.objs.size + 1)] ++ []) [.ref (hp.objs.size + 1)] _ (fun _ _ _ => False) (hr.make C [] []) (I2.env0.make C [] []) b2 (.cons rfl .nil) hq) fun r s' hq' => ?_))
  match r, hq' with
  | .error er, hq' => exact hx pins σ _ _ er s' I2 hq'
  | .ok (.ret u), hq' =>
    obtain ⟨v, H2, os2, bare2, un2, hok2, rv, ev, ea, q2⟩ := hq'
    subst ev
    obtain ⟨h2, g2, d2, t2, os'⟩ := s'
    exact ⟨rv, bare_made (raises_own T.exC T.tyC) I fresh grow un2 hok2 os2 bare2 ea q2⟩
end

/-! ### the exception that is handled: isinstance, fields -/
/-- a holds an exception of class cls, its own dict d, pinned -/
def HeldAt (X : Cx) (a : Addr) (cls : Value) (d : Option Addr) : Prop := ∃ oe : Obj, (a, oe) ∈ X.pn ∧ Zc cls d oe ∧ ∃ vs, oe.data = .fields vs
/-- its dict, where it has one, is told -/
def DictAt (H : Hp) (d : Option Addr) : Prop := d = none ∨ ∃ (dd : Addr) (fs : List (Str × V)), d = some dd ∧ H dd = some (.xd fs)
/-- isinstance(e, c) -/
def rIsX (K : PySem.W.Frag) (a : Addr) (cls : Value) (d : Option Addr) : List V → Hp → VK → Prop := fun xs H Q => ∃ (D : Addr) (c : V) (cv : Value) (b : Bool), cls = .ref D ∧ L2.ExcC K D ∧ DictAt H d ∧ xs = [.ref a, c] ∧ (∀ u, RelV c u → u = cv) ∧ PySem.W.kitOne K (.ref D) cv = some b ∧ Q (.bl b) H
section
variable {X : Cx} {a : Addr} {cls : Value} {d : Option Addr}
theorem held_inst {pins : Pins} {σ : L2.St} {H : Hp} {s : Shared} {D : Addr} (hh : HeldAt X a (.ref D) d) (I : Inv X pins σ H s) (hd : DictAt H d) : ∃ (oe : Obj) (od : Option Obj), PySem.W.InstAt s.heap a oe D od ∧
    (∀ (dd : Addr) (fs : List (Str × V)), d = some dd → H dd = some (.xd fs) → ∀ n, ∃ m : Option Value, PySem.W.lookIn n (od.getD default) = some m ∧ RelO (fs.lookup n) m ∧ od.isSome = true) := by
  obtain ⟨oe, hm, ⟨h1, h2⟩, vs, hv⟩ := hh
  obtain ⟨hget, _⟩ := I.pin (a, oe) (List.mem_append_left _ hm)
  have nc : PySem.W.notCls oe = true := by unfold PySem.W.notCls; rw [hv] <;> rfl
  rcases hd with hd | ⟨dd, fs, hd, hx⟩
  · refine ⟨oe, none, ⟨hget, h1, nc, ?_⟩, fun dd fs e => ?_⟩
    · rw [h2, hd]
      trivial
    · rw [hd] at e
      cases e
  · obtain ⟨mA, hns, hr⟩ := (show ObjOk X.prog X.w H s.heap dd (.xd fs) from I.hok dd _ hx)
    obtain ⟨od, ho, hl⟩ := lookIn_ns hns
    refine ⟨oe, some od, ⟨hget, h1, nc, ?_⟩, fun dd' fs' e hx' n => ?_⟩
    · rw [h2, hd]
      exact ho
    · rw [hd] at e
      cases e
      rw [hx] at hx'
      cases hx'
      exact ⟨mA n, hl n, hr n, rfl⟩
theorem call_isX (hh : HeldAt X a cls d) : CallR X (.builtin "isinstance") (rIsX X.K a cls d) := by
  intro pins s σ H xs us Q I r h
  obtain ⟨D, c, cv, b, ec, C, hd, rfl, hcv, e, q⟩ := h
  subst ec
  obtain ⟨u1, u2, rfl, r1, r2⟩ := vals2 r
  cases r1
  have e2 := hcv _ r2
  subst e2
  obtain ⟨oe, od, J, _⟩ := held_inst hh I hd
  have hcl : (PySem.W.clsIn X.K D).isSome = true := by
    obtain ⟨cd, hc, _⟩ := PySem.W.any_some C.hd
    rw [hc]
    rfl
  exact PySem.W.kia_one (PySem.W.kitx_exc hcl C.hg C.hk C.hs C.ha C.hn C.ht C.hm) I.kIn J e (fun z => nomatch z) fun tk => ⟨.bl b, H, I.kept (t' := tk) fun _ _ z => z, rfl, q⟩
/-- e.n -/
def tFldX (K : PySem.W.Frag) (a : Addr) (cls : Value) (d : Option Addr) (n : Str) (te : TE) : TE := fun σ H Q => te σ H fun x H1 => x = .ref a ∧ ∃ (D dd : Addr) (fs : List (Str × V)) (v : V), cls = .ref D ∧ L2.ExcC K D ∧ PySem.W.findIn K (.ref D) n = some none ∧
  d = some dd ∧ H1 dd = some (.xd fs) ∧ fs.lookup n = some v ∧ Q v H1
theorem pe_fldX {e : Expr} {te : TE} {pos : Pos} {n : Str} (hh : HeldAt X a cls d) (he : PE X e te) (hb : attributeBase e n X.env (eval e X.env) = eval e X.env := by rfl) : PE X (.Attribute e n pos) (tFldX X.K a cls d n te) := by
  refine ⟨fun pins s σ H Q I h => attr_of hb (thn (he.run pins s σ H _ I h) fun u s1 q1 => ?_)⟩
  obtain ⟨x, H1, I1, rx, ex, D, dd, fs, v, ec, C, hno, ed, ea, l, q⟩ := q1
  subst ex ec
  cases (show u = Value.ref a from rx)
  obtain ⟨oe, od, J, hl⟩ := held_inst hh I1 (.inr ⟨dd, fs, ed, ea⟩)
  obtain ⟨m, hm, hr, hs⟩ := hl dd fs ed ea n
  obtain ⟨ob, hob⟩ := Option.isSome_iff_exists.mp hs
  subst hob
  rw [l] at hr
  obtain ⟨u, hu, ru⟩ := RelO.some_of hr
  subst hu
  exact HandSPX.exc_get I1.kIn J C.hg C.hk C.hs (PySem.W.findObj_own C.hd hno rfl hm) (handed_of ru) ⟨v, H1, I1.tok _, ru, q⟩
end
end Tc
/-! The end of a law whose promise leans on what runs around (no guard stands around: repr). -/
namespace Tc
open PySem PySem.Spec PyProof.Rows L2 LamX
open L2H (RoomH PinOk)

/-- the heap at the law's entry: the tables at T, the script at a (z: as it is tracked) -/
def entryH (T : List Addr) (a : Addr) (z : Option HO) : Hp := fun b => if b ∈ T then some (.tbl #[]) else if b = a then z else none
theorem entry_tab {T : List Addr} {a b : Addr} {z : Option HO} (h : b ∈ T) : entryH T a z b = some (.tbl #[]) := if_pos h
theorem entry_script {T : List Addr} {a : Addr} {z : Option HO} (h : a ∉ T) : entryH T a z a = z := (if_neg h).trans (if_pos rfl)
theorem entry_cases {T : List Addr} {a b : Addr} {z : Option HO} {u : HO} (h : entryH T a z b = some u) : (b ∈ T ∧ u = .tbl #[]) ∨ (b ∉ T ∧ b = a ∧ z = some u) := by
  unfold entryH at h
  by_cases hb : b ∈ T
  · rw [if_pos hb] at h
    exact .inl ⟨hb, (Option.some.inj h).symm⟩
  · rw [if_neg hb] at h
    by_cases ha : b = a
    · rw [if_pos ha] at h
      exact .inr ⟨hb, ha, h⟩
    · rw [if_neg ha] at h
      cases h
theorem entry_none {T : List Addr} {a b : Addr} {z : Option HO} (h1 : b ∉ T) (h2 : b ≠ a) : entryH T a z b = none := (if_neg h1).trans (if_neg h2)

/-- what the law's promise may know of the script and of the heap ahead -/
structure Entry (K : PySem.W.Frag) (cs : List (Addr × Addr)) (n : Nat) (H : Hp) (a : Addr) (ns : List Int) : Prop where
  few : ns.length ≤ n
  bits : ∀ z ∈ ns, Builtin.Int.intBits z ≤ 1048576
  tabs : ∀ p ∈ cs, H p.2 = some (.tbl #[])
  at_ : SqL K H a (ns.map V.int)

abbrev tabObj : Obj := { cls := .none, data := .fields #[] }
abbrev listObj (vs : List Value) : Obj := { cls := .type "list", data := .seq vs.toArray }

theorem law_callG {P : Program} {w : World} {K : PySem.W.Frag} {mg mb : Str → Option Value} {CX : CXT} {k n : Nat} {fa a : Addr} {cs : List (Addr × Addr)} {fd : FuncData} {x : Str} {sp : Pins → Sp} {s₁ : Shared} {vs : List Value} {ns : List Int}
    (inK : K.In s₁.heap) (glob : s₁.heap.Ns mainGlobals mg) (blt : s₁.heap.Ns builtinsNs mb) (boot : ∀ x : Str, x ≠ "__name__" → mb x = bootBuiltins x) (lim : s₁.heap.NoLimit) (gens : s₁.gens = #[])
    (tabs : ∀ p ∈ cs, s₁.heap.get? p.2 = some tabObj) (outK : ∀ p ∈ cs, K.lookup p.2 = none) (code : ∀ p ∈ cs, PySem.W.CodeHd s₁.heap p.1 p.2)
    (bmod : ∃ (bm : Addr) (ob : Obj), mg "__builtins__" = some (.ref bm) ∧ bm ≠ builtinsNs ∧ s₁.heap.get? bm = some ob ∧ ob.cls = .type "module" ∧ ob.dict = some builtinsNs ∧ ob.data = .plain)
    (ha : s₁.heap.get? a = some (listObj vs)) (allInt : IntsAre vs ns) (few : ns.length ≤ n) (hn : n ≤ sizeLine) (bits : ∀ z ∈ ns, Builtin.Int.intBits z ≤ 1048576) (room : Room k callerA)
    (F : ∀ base : Heap, K.In base → base.Ns mainGlobals mg → (∀ p ∈ cs, TabB base mg p.1 p.2) → FnG P w K mg base CX Quiet k fa fd [x] sp) (hbind : ∀ (s : Shared) (u : Value), BindsTo s fd ⟨[u], []⟩ [(x, u)])
    (hsp : ∀ H : Hp, Entry K cs n H a ns → sp [] [.ref a] H (fun v _ => v = .bl true) fun _ _ _ => False)
    (hCX : ∀ H e s', CX [] H s₁ (fun _ _ _ => False) e s' → False) :
    codeAny (model P w) callerA (.call (.ref fa) ⟨[.ref a], []⟩) (fun r s' => r = .ok (.ret (.bool true)) ∧ OldK s₁.heap s'.heap ∧ s'.os = s₁.os ∧ AllBare s'.gens) s₁ := by
  have rel := vals_ints allInt
  have long : vs.length = ns.length := allInt.length
  let T := cs.map (·.2)
  have tabT : ∀ b ∈ T, s₁.heap.get? b = some tabObj := fun b hb => by
    obtain ⟨p, hp, e⟩ := List.mem_map.mp hb
    exact e ▸ tabs p hp
  have inT : ∀ p ∈ cs, p.2 ∈ T := fun p hp => List.mem_map.mpr ⟨p, hp, rfl⟩
  have aT : a ∉ T := fun z => by
    have q := tabT a z
    rw [ha] at q
    have q2 := congrArg Obj.data (Option.some.inj q)
    cases q2
  -- whichever way the script is known
  have run : ∀ z : Option HO, (∀ u, z = some u → u = .frz (listObj vs) (.lst (ns.map V.int)) ∧ K.lookup a = none) → SqL K (entryH T a z) a (ns.map V.int) →
      codeAny (model P w) callerA (.call (.ref fa) ⟨[.ref a], []⟩) (fun r s' => r = .ok (.ret (.bool true)) ∧ OldK s₁.heap s'.heap ∧ s'.os = s₁.os ∧ AllBare s'.gens) s₁ := by
    intro z hz hS
    have hok : HOk P w (entryH T a z) s₁.heap := fun b u e => by
      rcases entry_cases e with ⟨hb, hu⟩ | ⟨_, hb, hu⟩
      · subst hu
        exact tabT b hb
      · subst hb
        obtain ⟨hu2, _⟩ := hz u hu
        subst hu2
        exact ⟨ha, by rw [List.length_map]; omega, vs, _, rel, ha⟩
    -- dicts, modules, code objects are none of these
    have free : ∀ {b : Addr} {o : Obj}, s₁.heap.get? b = some o → o ≠ tabObj → o ≠ listObj vs → entryH T a z b = none := fun {b o} e h1 h2 => by
      refine entry_none (fun hb => ?_) (fun hb => ?_)
      · rw [tabT b hb] at e
        exact h1 (Option.some.inj e).symm
      · rw [hb, ha] at e
        exact h2 (Option.some.inj e).symm
    have keep : ∀ {b : Addr} {o : Obj}, s₁.heap.get? b = some o → entryH T a z b = none → (hidT s₁.heap (entryH T a z)).get? b = some o := hidT_get
    have ofD : ∀ {b : Addr} {o : Obj} {es : Array DictEntry} {ep : Nat}, s₁.heap.get? b = some o → o.data = .dict es ep → entryH T a z b = none := fun {b o es ep} e d =>
      free e (fun q => by rw [q] at d; cases d) (fun q => by rw [q] at d; cases d)
    have ns2 : ∀ {b : Addr} {m : Str → Option Value}, s₁.heap.Ns b m → (hidT s₁.heap (entryH T a z)).Ns b m := fun {b m} q => by
      obtain ⟨o, es, ep, e, d, r⟩ := q
      exact ⟨o, es, ep, keep e (ofD e d), d, r⟩
    have K2 : K.In (hidT s₁.heap (entryH T a z)) := fun b o e => keep (inK b o e) (by
      cases q : entryH T a z b with
      | none => rfl
      | some u =>
        rcases entry_cases q with ⟨hb, _⟩ | ⟨_, hb, hu⟩
        · obtain ⟨p, hp, ep⟩ := List.mem_map.mp hb
          rw [← ep, outK p hp] at e
          cases e
        · rw [hb, (hz u hu).2] at e
          cases e)
    have md : L2.Mod K mg (hidT s₁.heap (entryH T a z)) := by
      obtain ⟨mc, h1, h2⟩ := lim
      exact ⟨K2, ns2 glob, ⟨mb, ns2 blt, boot⟩, mc, ns2 h1, h2⟩
    have notG : ∀ {b : Addr} {o : Obj}, s₁.heap.get? b = some o → (∀ es ep, o.data ≠ .dict es ep) → b ≠ mainGlobals := fun {b o} e h q => by
      obtain ⟨o2, es, ep, e2, d2, _⟩ := glob
      rw [q, e2] at e
      exact h es ep ((congrArg Obj.data (Option.some.inj e)).symm.trans d2)
    have TB : ∀ p ∈ cs, TabB (hidT s₁.heap (entryH T a z)) mg p.1 p.2 := fun p hp => by
      have ht := tabs p hp
      refine ⟨?_, ?_, fun q => notG ht (fun es ep d => by cases d) q.symm⟩
      · obtain ⟨o, us, file, tf, flags, tg, inF, text, tt, e1, r1, r2, r3, rest⟩ := code p hp
        refine ⟨o, us, file, tf, flags, tg, inF, text, tt, keep e1 (free e1 (fun q => ?_) fun q => ?_), r1, r2, r3, rest⟩
        · rw [q] at r2
          have e := Data.fields.inj r2
          rw [← e] at r3
          simp at r3
        · rw [q] at r2
          cases r2
      · obtain ⟨bm, ob, b1, b2, b3, b4, b5, b6⟩ := bmod
        refine ⟨bm, ob, b1, b2, notG b3 (fun es ep d => by rw [b6] at d; cases d), fun q => ?_, keep b3 (free b3 (fun q => ?_) fun q => ?_), b4, b5, b6⟩
        · rw [q, ht] at b3
          rw [← Option.some.inj b3] at b6
          cases b6
        · rw [q] at b6
          cases b6
        · rw [q] at b6
          cases b6
    have e0 : Env0 P w K mg (hidT s₁.heap (entryH T a z)) callerA [] s₁ (entryH T a z) :=
      ⟨rfl, md, fun b o e => of_hidT e, Nat.le_of_eq (hidT_size _ _), trivial, fun b hb => (nomatch (show b ∈ ([] : List Addr) from hb)), hok, .of_eq gens⟩
    have want := hsp (entryH T a z) ⟨few, bits, fun p hp => entry_tab (inT p hp), hS⟩
    refine codeAny_mono ((F _ K2 (ns2 glob) TB).go [] callerA [] s₁ _ ⟨[.ref a], []⟩ [.ref a] [.ref a] _ _ ⟨room.dp, room.un⟩ ⟨room.hd, rfl⟩ (fun p hp => (nomatch hp)) e0 (hbind s₁ (.ref a)) (.cons rfl .nil) want) fun r s' hr => ?_
    match r, hr with
    | .error e, hr => exact (hCX _ e s' hr).elim
    | .ok (.ret u), hr =>
      obtain ⟨v, H', os, bare, un, hok', rv, q⟩ := hr
      subst q
      cases (show u = Value.bool true from rv)
      have stay : ∀ b o, b ∉ T → s₁.heap.get? b = some o → s'.heap.get? b = some o := fun b o nb e => by
        cases q : entryH T a z b with
        | none => exact un.keep b o e q (fun w => nomatch (show b ∈ ([] : List Addr) from w)) (fun w => nomatch w)
        | some u =>
          rcases entry_cases q with ⟨hb, _⟩ | ⟨_, hb, hu⟩
          · exact absurd hb nb
          · obtain ⟨hu2, _⟩ := hz u hu
            subst hu2
            obtain ⟨e1, _⟩ := hok b _ q
            obtain ⟨e2, _⟩ := hok' b _ (un.frzs b _ _ q)
            exact e2.trans (e1.symm.trans e)
      have grown : ∀ b ∈ T, ∃ more : Array Value, s'.heap.get? b = some { cls := .none, data := .fields more } := fun b hb => by
        obtain ⟨more, q⟩ := un.tbls b #[] (entry_tab hb)
        exact ⟨_, hok' b _ q⟩
      refine ⟨rfl, ⟨fun b o e => ?_, fun b o e => ?_⟩, os, bare⟩
      · by_cases hb : b ∈ T
        · obtain ⟨more, hm⟩ := grown b hb
          have e2 := tabT b hb
          rw [e] at e2
          cases e2
          obtain ⟨p, hp, ep⟩ := List.mem_map.mp hb
          subst ep
          exact .inr (.inl ⟨((code p hp).tab (tabs p hp)).isCodeTable, rfl, #[], more, rfl, by rw [Array.empty_append]; exact hm⟩)
        · exact .inl (stay b o hb e)
      · by_cases hb : b ∈ T
        · obtain ⟨more, hm⟩ := grown b hb
          exact ⟨_, hm⟩
        · exact ⟨o, stay b o hb e⟩
  cases hk : K.lookup a with
  | some o =>
    have e := inK a o hk
    rw [ha] at e
    cases e
    exact run none (fun u q => nomatch q) (.inr ⟨_, vs.toArray, _, hk, rfl, rfl, rfl, by rw [List.size_toArray, long]; omega, by simpa using rel⟩)
  | none => exact run (some (.frz (listObj vs) (.lst (ns.map V.int)))) (fun u q => ⟨(Option.some.inj q).symm, hk⟩) (.inl (.inr ⟨listObj vs, entry_script aT⟩))

/-- what is known of the law's promise at the head's heap h -/
def LawG (l : PySem.W.OpenLaw) (w : World) (K : PySem.W.Frag) (CX : CXT) (k n : Nat) (x : Str) (mg : Str → Option Value) (fa : Addr) (h : Heap) : Prop :=
  ∃ (fd : FuncData) (cs : List (Addr × Addr)) (sp : Pins → Sp), (∀ p ∈ cs, h.get? p.2 = some tabObj) ∧ (∀ p ∈ cs, K.lookup p.2 = none) ∧ (∀ p ∈ cs, PySem.W.CodeHd h p.1 p.2) ∧ (∀ (s : Shared) (u : Value), BindsTo s fd ⟨[u], []⟩ [(x, u)]) ∧
    (∀ (H : Hp) (a : Addr) (ns : List Int), Entry K cs n H a ns → sp [] [.ref a] H (fun v _ => v = .bl true) fun _ _ _ => False) ∧
    ∀ base : Heap, K.In base → base.Ns mainGlobals mg → (∀ p ∈ cs, TabB base mg p.1 p.2) → FnG l.prog w K mg base CX Quiet k fa fd [x] sp
theorem walk_ofG {l : PySem.W.OpenLaw} {n k : Nat} {q : Program} {loose : List Str} {XP : (Str → Option Value) → Heap → Prop} {YP : World → Heap → Prop} {d : DefRec} {CX : World → CXT} {x : Str}
    (hn : l.most = some n) (hn2 : n ≤ sizeLine) (hdf : d.params.defaults = []) (room : Room k callerA)
    (F : ∀ (w : World) (mg : Str → Option Value) (fa : Addr) (h : Heap), YP w h → h.Ns mainGlobals mg → mg d.name = some (.ref fa) → ∃ K : PySem.W.Frag, K.In h ∧ LawG l w K (CX w) k n x mg fa h)
    (hCX : ∀ (w : World) (H : Hp) (s : Shared) (e : Value) (s' : Shared), CX w [] H s (fun _ _ _ => False) e s' → False) :
    PySem.W.WalkO q loose XP YP l.row.toRowW d [] (fun f vs => PySem.call f vs) :=
  Att.attach_callB hn hdf fun w _ s₁ mg _ fa _ _ _ _ a vs ns G Y _ _ _ hmg hobj hints hlen hbits hg => by
    obtain ⟨K, inK, fd, cs, sp, h1, h2, h3, hb, hsp, hF⟩ := F w mg fa _ Y G.T.g hmg
    exact law_callG inK G.T.g G.T.b G.T.builtins G.T.nolimit hg h1 h2 h3 G.T.bmain hobj hints hlen hn2 hbits room hF hb (fun H e => hsp H a ns e) fun H e s' => hCX w H s₁ e s'
end Tc
/-! repr of data: none, bools, ints, texts, lists and tuples of these; a flat dict -/
namespace Tc
open PySem PySem.Spec PyProof.Rows L2

mutual
theorem dp_noDict {K : PySem.W.Frag} {H : Hp} : ∀ (d : PyData) (v : V), Dp K H v d → d.hasDict = false
  | .none, _, _ => by simp only [PyData.hasDict]
  | .bool _, _, _ => by simp only [PyData.hasDict]
  | .int _, _, _ => by simp only [PyData.hasDict]
  | .str _, _, _ => by simp only [PyData.hasDict]
  | .list ds, _, h => by
    cases h with
    | lst _ a =>
      simp only [PyData.hasDict]
      exact dps_noDict ds _ a
  | .tuple ds, _, h => by
    cases h with
    | tup _ a =>
      simp only [PyData.hasDict]
      exact dps_noDict ds _ a
  | .dict _, _, h => by cases h
theorem dps_noDict {K : PySem.W.Frag} {H : Hp} : ∀ (ds : List PyData) (vs : List V), DpAll K H vs ds → PyData.hasDictAll ds = false
  | [], _, _ => by simp only [PyData.hasDictAll]
  | d :: ds, _, h => by
    cases h with
    | cons a b =>
      simp only [PyData.hasDictAll]
      rw [dp_noDict d _ a, dps_noDict ds _ b]
      rfl
end

/-- a plain value as data -/
def flatD : V → Option PyData
  | .non => some .none
  | .bl b => some (.bool b)
  | .int i => some (.int i)
  | .str x => some (.str x)
  | _ => none
def keyD : Key → PyData
  | .inl i => .int i
  | .inr x => .str x
/-- a flat dict's data -/
def kvD : List (Key × V) → Option (List (PyData × PyData))
  | [] => some []
  | (k, v) :: r => match flatD v, kvD r with
    | some d, some ds => some ((keyD k, d) :: ds)
    | _, _ => none
/-- data, or a flat dict -/
def Dr (K : PySem.W.Frag) (H : Hp) (v : V) (d : PyData) : Prop := Dp K H v d ∨ ∃ (a : Addr) (kvs : List (Key × V)) (ds : List (PyData × PyData)), v = .ref a ∧ H a = some (.dK kvs) ∧ kvD kvs = some ds ∧ d = .dict ds
section
variable {X : Cx} {pins : Pins} {σ : L2.St} {H : Hp} {s : Shared}
theorem flat_reads {h : Heap} {v : V} {u : Value} {d : PyData} (e : flatD v = some d) (r : RelV v u) : Reads h u d [] := by
  cases v <;> simp only [flatD, Option.some.injEq, reduceCtorEq] at e <;> subst e
  · cases r; exact .none
  · cases r; exact .bool _
  · obtain ⟨t, rfl⟩ := r; exact .int _ t
  · obtain ⟨t, rfl⟩ := r; exact .str _ t
theorem kv_reads {P : Program} {w : World} {h : Heap} : ∀ {kvs : List (Key × V)} {vs : List (Key × Value)} {es : List DictEntry} {ds : List (PyData × PyData)}, KV kvs vs → Pairs (mixKind P w) es vs → kvD kvs = some ds →
    ReadsAll h (es.map (·.key)) (ds.map (·.1)) [] ∧ ReadsAll h (es.map (·.val)) (ds.map (·.2)) []
  | [], _, _, _, hk, hp, e => by
    cases hk
    cases hp
    cases e
    exact ⟨.nil, .nil⟩
  | (k, v) :: r, _, _, ds, hk, hp, e => by
    cases hk with
    | @cons _ q _ qs h1 h2 =>
      cases hp with
      | @cons e0 _ es0 _ p1 p2 p3 =>
        have e2 : (match flatD v, kvD r with | some d, some ds => some ((keyD k, d) :: ds) | _, _ => none) = some ds := e
        cases ev : flatD v with
        | none => rw [ev] at e2; cases e2
        | some d =>
          cases er : kvD r with
          | none => rw [ev, er] at e2; cases e2
          | some dr =>
            rw [ev, er] at e2
            cases e2
            obtain ⟨i1, i2⟩ := kv_reads (h := h) h2 p3 er
            obtain ⟨g1, g2⟩ := h1
            have key : Reads h e0.key (keyD k) [] := by
              have p4 : keyIs q.1 e0.key = true := p1
              rw [show q.1 = k from g1.symm] at p4
              rcases keyIs_shape p4 with ⟨i, t, ek, ev2⟩ | ⟨x, t, ek, ev2⟩
              · rw [ek, ev2]; exact .int i t
              · rw [ek, ev2]; exact .str x t
            have val : Reads h e0.val d [] := by
              rw [p2]
              exact flat_reads ev g2
            exact ⟨.cons key i1, .cons val i2⟩
theorem Dr.reads (I : Inv X pins σ H s) {d : PyData} {v : V} {u : Value} (h : Dr X.K H v d) (r : RelV v u) : ∃ as, Reads s.heap u d as ∧ (d.hasDict = true → sysModules ∉ as) := by
  rcases h with h | ⟨a, kvs, ds, rfl, ha, e, rfl⟩
  · obtain ⟨as, q⟩ := Dp.reads I d v u h r
    exact ⟨as, q, PyData.noDict_hsm (dp_noDict d v h)⟩
  · cases (show u = Value.ref a from r)
    obtain ⟨_, no, vs, hkv, o, es, ep, h1, h2, h3, _, hp, _⟩ := (show ObjOk X.prog X.w H s.heap a (.dK kvs) from I.hok a _ ha)
    obtain ⟨q1, q2⟩ := kv_reads (h := s.heap) hkv hp e
    refine ⟨_, .dict h1 h2.1 h3 q1 q2, fun _ hm => ?_⟩
    have e2 : sysModules = a := by simpa using hm
    rw [e2] at no
    simp at no
/-- repr(x) -/
def rRepr (K : PySem.W.Frag) : List V → Hp → VK → Prop := fun xs H Q => ∃ (x : V) (d : PyData), xs = [x] ∧ Dr K H x d ∧ d.showable = true ∧ d.shown.length ≤ sizeLine ∧ d.depth ≤ 64 ∧ Q (.str d.shown) H
theorem call_repr (hg : X.A.guards = some []) (hu : X.A.units + 80 < cLine) : CallR X (.builtin "repr") (rRepr X.K) := by
  intro pins s σ H xs us Q I r h
  obtain ⟨x, d, rfl, hd, hs, hz, hn, q⟩ := h
  obtain ⟨u, rfl, ru⟩ := vals1 r
  obtain ⟨as, rd, no⟩ := hd.reads I ru
  cases rd with
  | none =>
    exact PySem.P.repr_of_none ⟨.str _, H, I.tok _, ⟨_, rfl⟩, by simpa only [PyData.shown] using q⟩
  | bool b => exact PySem.P.repr_of_bool ⟨.str _, H, I.tok _, ⟨_, rfl⟩, by simpa only [PyData.shown] using q⟩
  | int i t => exact PySem.P.repr_of_int (by simpa only [PyData.showable, decide_eq_true_eq] using hs) ⟨.str _, H, I.tok _, ⟨_, rfl⟩, by simpa only [PyData.shown] using q⟩
  | str x t =>
    have hz2 : (reprText x).length ≤ sizeLine := by simpa only [PyData.shown] using hz
    exact PySem.P.repr_of_str ⟨.str _, H, I.tok _, ⟨_, rfl⟩, by simpa only [PyData.shown] using q⟩ hz2
  | list h1 h2 h3 h4 => exact repr_of_reads' (.list h1 h2 h3 h4) hs no hg (by omega) (fun _ _ e => e) (fun h' u tk kp => ⟨.str _, H, I.kept kp, ⟨_, rfl⟩, q⟩) hz
  | tuple h1 h2 h3 h4 => exact repr_of_reads' (.tuple h1 h2 h3 h4) hs no hg (by omega) (fun _ _ e => e) (fun h' u tk kp => ⟨.str _, H, I.kept kp, ⟨_, rfl⟩, q⟩) hz
  | dict h1 h2 h3 h4 h5 => exact repr_of_reads' (.dict h1 h2 h3 h4 h5) hs no hg (by omega) (fun _ _ e => e) (fun h' u tk kp => ⟨.str _, H, I.kept kp, ⟨_, rfl⟩, q⟩) hz
end
end Tc
/-! The head's facts, by names: defs, error classes, tables of code objects. -/
namespace Tc
open PySem PySem.Spec PyProof.Rows L2 He

/-! ### an error class of the program -/
/-- the class at C: over ValueError, with dicts, nothing odd -/
def excClsB (K : PySem.W.Frag) (C : Addr) : Bool := match K.lookup C with
  | some ⟨.type t, _, .cls cd, sl⟩ => (match cd.mro, sl.toList with
    | .ref D :: bm, [_, _, _, _, some (.builtin n), _] => decide (t = "type") && (decide (D = C) && (decide (n = "ValueError.__new__") && (!cd.hasDel && (cd.hasDict && PySem.HandSPX.refsVE bm))))
    | _, _ => false)
  | _ => false
theorem excClsB_ok {K : PySem.W.Frag} {C : Addr} (h : excClsB K C = true) : ∃ nm q N bs bm sn sub ab col dd k0 k1 k2 k3 k5, K.lookup C = some (excClassObj nm q C N bs bm true sn sub ab col dd k0 k1 k2 k3 k5 "ValueError.__new__") ∧ PySem.HandSPX.refsVE bm = true := by
  unfold excClsB at h
  split at h
  · rename_i t dd cd sl lk
    split at h
    · rename_i D bm k0 k1 k2 k3 n k5 hm hs
      simp only [Bool.and_eq_true, decide_eq_true_eq, Bool.not_eq_true'] at h
      obtain ⟨h1, h2, h3, h4, h5, h6⟩ := h
      subst h1 h2 h3
      obtain ⟨l⟩ := sl
      obtain ⟨a1, a2, a3, a4, a5, a6, a7, a8, a9, a10, a11⟩ := cd
      simp only at hm hs h4 h5
      subst hm hs h4 h5
      exact ⟨_, _, _, _, bm, _, _, _, _, _, _, _, _, _, _, lk, h6⟩
    · cases h
  · cases h
def exB (a b : Option (Option Value)) : Bool := decide (a = b)
/-- all that the rules ask of an error class, its fields fs -/
def errB (K : PySem.W.Frag) (C : Addr) (fs : List Str) : Bool :=
  excClsB K C && (exB (PySem.W.findIn K (.ref C) "__setattr__") (some (some (.builtin "object.__setattr__"))) && (decide (PySem.W.subIn K (.ref C) (.type "BaseException") = some true) && (decide (PySem.W.typeIn K (.ref C) = some (.type "type")) && (PySem.W.keepIn K (.ref C) &&
  (exB (PySem.W.findIn K (.ref C) "__getattribute__") (some (some (.builtin "BaseException.__getattribute__"))) && (exB (PySem.W.findIn K (.ref C) "__getattr__") (some none) && (PySem.W.hasDictIn K C && (exB (PySem.W.findIn K (.ref C) "__class__") (some (some (.builtin "object.__class__"))) &&
  (exB (PySem.W.specialIn K (.builtin "object.__class__") "__get__") (some (some (.builtin "getset_descriptor.__get__"))) && (decide (PySem.W.takesIn K (.builtin "object.__class__") = some true) && (decide (PySem.W.mroIn K C (.type "object") = some true) &&
  fs.all fun f => exB (PySem.W.findIn K (.ref C) f) (some none))))))))))))
structure ErrC (K : PySem.W.Frag) (C : Addr) (fs : List Str) : Prop where
  oex : OexC K C
  exc : L2.ExcC K C
  none_ : ∀ f ∈ fs, PySem.W.findIn K (.ref C) f = some none
theorem errB_ok {K : PySem.W.Frag} {C : Addr} {fs : List Str} (h : errB K C fs = true) : ErrC K C fs := by
  unfold errB exB at h
  simp only [Bool.and_eq_true, decide_eq_true_eq, List.all_eq_true] at h
  obtain ⟨h1, h2, h3, h4, h5, h6, h7, h8, h9, h10, h11, h12, h13⟩ := h
  exact ⟨⟨excClsB_ok h1, h2, h3, h4, h5⟩, ⟨h6, h7, h3, h8, h9, h10, h11, h12⟩, h13⟩
/-- __init__ of a class is the def at f -/
def initB (K : PySem.W.Frag) (C : Addr) : Bool := exB (PySem.W.findIn K (.ref C) "__init__") (some (some (.ref (ma K C "__init__")))) && decide (PySem.W.typeIn K (.ref (ma K C "__init__")) = some (.type "function"))
theorem initB_ok {K : PySem.W.Frag} {C : Addr} (h : initB K C = true) : PySem.W.findIn K (.ref C) "__init__" = some (some (.ref (ma K C "__init__"))) ∧ PySem.W.typeIn K (.ref (ma K C "__init__")) = some (.type "function") := by
  unfold initB exB at h
  simp only [Bool.and_eq_true, decide_eq_true_eq] at h
  exact h
def baseB (K : PySem.W.Frag) (C : Addr) : Bool := exB (PySem.W.specialIn K (.ref C) "__getattribute__") (some (some (.builtin "type.__getattribute__"))) && (PySem.W.readsIn K C (.type "type") && (match PySem.W.findCls K (.ref C) (.type "type") "__init__" with
  | some (.val (.builtin n)) => decide (n = "ValueError.__init__")
  | _ => false))
theorem baseB_ok {K : PySem.W.Frag} {C : Addr} (h : baseB K C = true) : BaseC K C := by
  unfold baseB exB at h
  simp only [Bool.and_eq_true, decide_eq_true_eq] at h
  obtain ⟨h1, h2, h3⟩ := h
  refine ⟨h1, h2, ?_⟩
  split at h3
  · rename_i n e
    rw [e, of_decide_eq_true h3]
  · cases h3
/-- isinstance of each error class among the others, and by ValueError; each is caught by the base -/
def kinB (K : PySem.W.Frag) (base : Str) (xs : List Str) : Bool :=
  (xs.all fun x => xs.all fun y => decide (PySem.W.kitOne K (.ref (ga K x)) (.ref (ga K y)) = some (decide (x = y)))) &&
  xs.all fun x => decide (PySem.W.kitOne K (.ref (ga K x)) (.type "ValueError") = some true) && decide (PySem.W.exmOne K (.ref (ga K x)) (.ref (ga K base)) = some true)
structure Kin (K : PySem.W.Frag) (base : Str) (xs : List Str) : Prop where
  own : ∀ x ∈ xs, ∀ y ∈ xs, PySem.W.kitOne K (.ref (ga K x)) (.ref (ga K y)) = some (decide (x = y))
  ve : ∀ x ∈ xs, PySem.W.kitOne K (.ref (ga K x)) (.type "ValueError") = some true
  caught : ∀ x ∈ xs, PySem.W.exmOne K (.ref (ga K x)) (.ref (ga K base)) = some true
theorem kinB_ok {K : PySem.W.Frag} {base : Str} {xs : List Str} (h : kinB K base xs = true) : Kin K base xs := by
  unfold kinB at h
  simp only [Bool.and_eq_true, decide_eq_true_eq, List.all_eq_true] at h
  obtain ⟨h1, h2⟩ := h
  exact ⟨h1, fun x hx => (h2 x hx).1, fun x hx => (h2 x hx).2⟩
/-- the classes of the program's errors, each with its fields -/
def errsB (K : PySem.W.Frag) (base : Str) (es : List (Str × List Str)) : Bool := baseB K (ga K base) && (kinB K base (es.map (·.1)) && es.all fun e => initB K (ga K e.1) && errB K (ga K e.1) e.2)

/-! ### the Hook -/
def frZ (g : Addr → Option Obj) (n : Nat) : PySem.W.Frag := frT g (cStatics :: asD g n)
abbrev AlZ : Type := AlD × Bool
def obsZ (n : Nat) (fa : List Fa) (fn : List DefD) (tf : List Defn) (ex : PySem.W.Frag → Bool) (g : Addr → Option Obj) : AlZ := (obsD fa fn (frZ g n), ex (frZ g n) && tabsB g tf (frZ g n))
structure SaysZ (fa : List Fa) (fn : List DefD) (tf : List Defn) (ex : PySem.W.Frag → Bool) (h : Heap) (K : PySem.W.Frag) : Prop where
  d : SaysD fa fn K
  more : ex K = true
  hd : ∀ p ∈ tf, PySem.W.codeHdIn K (cT K p).1 (cT K p).2 = true
  out : ∀ p ∈ tf, K.lookup (cT K p).2 = none
  empty : ∀ p ∈ tf, h.get? (cT K p).2 = some { cls := .none, data := .fields #[] }
theorem saysZ_of {n : Nat} {fa : List Fa} {fn : List DefD} {tf : List Defn} {ex : PySem.W.Frag → Bool} {h : Heap} (e : obsZ n fa fn tf ex h.get? = (valD fn, true)) : SaysZ fa fn tf ex h (frZ h.get? n) := by
  have e1 : obsD fa fn (frZ h.get? n) = valD fn := congrArg Prod.fst e
  have e2 : (ex (frZ h.get? n) && tabsB h.get? tf (frZ h.get? n)) = true := congrArg Prod.snd e
  obtain ⟨h1, h2⟩ := ba e2
  have each : ∀ p ∈ tf, PySem.W.codeHdIn (frZ h.get? n) (cT (frZ h.get? n) p).1 (cT (frZ h.get? n) p).2 = true ∧ ∃ o, h.get? (cT (frZ h.get? n) p).2 = some o ∧ emptyTab o = true := by
    intro p hp
    obtain ⟨h3, h4⟩ := ba (List.all_eq_true.mp h2 p hp)
    refine ⟨h3, ?_⟩
    cases q : h.get? (cT (frZ h.get? n) p).2 with
    | some o => exact ⟨o, rfl, by rw [q] at h4; exact h4⟩
    | none => rw [q] at h4; cases h4
  refine ⟨e1, h1, fun p hp => (each p hp).1, fun p hp => ?_, fun p hp => ?_⟩
  · obtain ⟨_, o, q, z⟩ := each p hp
    exact frT_none q z
  · obtain ⟨_, o, q, z⟩ := each p hp
    rw [q, emptyTab_eq z]
def hookZ (n : Nat) (fa : List Fa) (fn : List DefD) (tf : List Defn) (ex : PySem.W.Frag → Bool) : PySem.W.Hook where
  α := AlZ
  obs := fun s => obsZ n fa fn tf ex s.heap.get?
  val := fun _ => (valD fn, true)
  says := fun _ h => ∃ K : PySem.W.Frag, K.In h ∧ SaysZ fa fn tf ex h K
  of := fun _ _ e => ⟨_, frT_in, saysZ_of e⟩
  keeps := fun _ _ _ ⟨K, hK, c⟩ k => ⟨K, PySem.W.Frag.In.keeps hK k, ⟨c.d, c.more, c.hd, c.out, fun p hp => k _ _ (c.empty p hp)⟩⟩
theorem obsZ_eq {n : Nat} {fa : List Fa} {fn : List DefD} {tf : List Defn} {ex : PySem.W.Frag → Bool} {g : Addr → Option Obj} {s : Shared} (h : ∀ a, g a = s.heap.get? a) : obsZ n fa fn tf ex g = (hookZ n fa fn tf ex).obs s := by
  have e : g = s.heap.get? := funext h
  rw [e] <;> rfl
/-- a def of no defaults, by the short words -/
theorem fun_of {K : PySem.W.Frag} {x qual : Str} {st : Stmt} {f : Addr} {fd : FuncData} (F : FunD K x qual (defArgs st) (defBody st) (defScope st) [] [] f fd) : Fun K x qual st f fd := by
  obtain ⟨oc, od, dV, kV, doc, pm, an, cdv, ct, osl, e, lk, hc, hd, _⟩ := F.ex
  have hz : dV = .none := by
    rcases hd with h | ⟨h, _⟩
    · first | exact h.1 | exact h.2
    · exact absurd rfl h
  subst hz
  exact ⟨⟨oc, od, kV, doc, pm, an, cdv, ct, osl, e, lk, hc⟩, F.kp⟩
end Tc
/-! Defs by name, the law's pen -/
namespace Tc
open PySem PySem.Spec PyProof.Rows L2
open L2H (RoomH PinOk)

/-! ### a def of the module as its callers see it -/
structure Callee (P : Program) (w : World) (K : PySem.W.Frag) (mg : Str → Option Value) (base : Heap) (CX : CXT) (k : Nat) (x : Str) (ps : List Str) (sp : Sp) : Prop where
  ex : ∃ (f : Addr) (fd : FuncData), FnOk P w K mg base CX k f fd ps sp ∧ mg x = some (.ref f) ∧ PySem.W.keepIn K (.ref f) = true ∧ Binds K fd ps []
section
variable {X : Cx} {j k : Nat} {x : Str} {ps : List Str} {sp : Sp} {e : Expr} {es : List Expr} {t : TA} {p pos : Pos} {W : WX}
theorem Callee.mono {P : Program} {w : World} {K : PySem.W.Frag} {mg : Str → Option Value} {base : Heap} {CX : CXT} (c : Callee P w K mg base CX k x ps sp) (h : k ≤ j) : Callee P w K mg base CX j x ps sp := by
  obtain ⟨f, fd, F, g, kp, b⟩ := c.ex
  exact ⟨f, fd, F.mono h, g, kp, b⟩
/-- f(e, ..), nothing is raised -/
theorem pe_f (c : Callee X.prog X.w X.K X.mg X.base CX0 k x ps sp) (hr : Room j X.A) (ha : PA X (e :: es) t) (hk : k ≤ j := by decide) (hg : Gl X x := by rfl) (hdb : (x == ("__debug__" : Str)) = false := by decide)
    (he : starEach (e :: es) X.env = (false, eval e X.env) :: starEach es X.env := by rfl) (hpl : (backTo pos (starEach es X.env)).any (·.1) = false := by rfl) : PE X (.Call (.Name x p) (e :: es) [] pos) (tCall sp [] E0 t) := by
  obtain ⟨f, fd, F, g, kp, b⟩ := c.ex
  exact pe_call F (hr.mono hk) hg g kp b .nil pass0 ha hdb he hpl
/-- f(e, ..) that may raise -/
theorem pe_fX (c : Callee X.prog X.w X.K X.mg X.base (L2.CX X.prog X.w) k x ps sp) (hr : Room j X.A) (tk : Takes X W) (ha : PA X (e :: es) t) (hk : k ≤ j := by decide) (hg : Gl X x := by rfl) (hdb : (x == ("__debug__" : Str)) = false := by decide)
    (he : starEach (e :: es) X.env = (false, eval e X.env) :: starEach es X.env := by rfl) (hpl : (backTo pos (starEach es X.env)).any (·.1) = false := by rfl) : PE X (.Call (.Name x p) (e :: es) [] pos) (tCallS sp (WE W) t) := by
  obtain ⟨f, fd, F, g, kp, b⟩ := c.ex
  exact pe_callS F (hr.mono hk) hg g kp b (fun σ => passAt tk σ) ha hdb he hpl
end
/-- such a def that leans on pins, on what runs around -/
structure CalleeG (P : Program) (w : World) (K : PySem.W.Frag) (mg : Str → Option Value) (base : Heap) (CX : CXT) (Γ : Around → Prop) (k : Nat) (x : Str) (ps : List Str) (sp : Pins → Sp) : Prop where
  ex : ∃ (f : Addr) (fd : FuncData), FnG P w K mg base CX Γ k f fd ps sp ∧ mg x = some (.ref f) ∧ PySem.W.keepIn K (.ref f) = true ∧ Binds K fd ps []
theorem FnG.mono {P : Program} {w : World} {K : PySem.W.Frag} {mg : Str → Option Value} {base : Heap} {CX : CXT} {Γ : Around → Prop} {j k : Nat} {f : Addr} {fd : FuncData} {ps : List Str} {sp : Pins → Sp} (F : FnG P w K mg base CX Γ k f fd ps sp) (h : k ≤ j) : FnG P w K mg base CX Γ j f fd ps sp :=
  ⟨F.many, fun pn A outer s H args us vs Q E room => F.go pn A outer s H args us vs Q E (room.mono h)⟩
section
variable {X : Cx} {j k : Nat} {x : Str} {ps : List Str} {sp : Pins → Sp} {Γ : Around → Prop} {pn : Pins} {e : Expr} {es : List Expr} {t : TA} {p pos : Pos} {W : WX}
theorem pe_g (c : CalleeG X.prog X.w X.K X.mg X.base CX0 Γ k x ps sp) (hr : RoomH j X.A) (g : Γ X.A) (hpn : ∀ q ∈ pn, q ∈ X.pn) (ha : PA X (e :: es) t) (hk : k ≤ j := by decide) (hg : Gl X x := by rfl) (hdb : (x == ("__debug__" : Str)) = false := by decide)
    (he : starEach (e :: es) X.env = (false, eval e X.env) :: starEach es X.env := by rfl) (hpl : (backTo pos (starEach es X.env)).any (·.1) = false := by rfl) : PE X (.Call (.Name x p) (e :: es) [] pos) (tCallS (sp pn) (fun _ => E0) t) := by
  obtain ⟨f, fd, F, gm, kp, b⟩ := c.ex
  exact pe_callG (F.mono hk) hr g hpn hg gm kp b (fun _ _ _ _ _ _ _ z => z.elim) ha hdb he hpl
end
theorem callee_mk {P : Program} {w : World} {K : PySem.W.Frag} {mg : Str → Option Value} {base : Heap} {CX : CXT} {k : Nat} {x : Str} {st : Stmt} {f : Addr} {fd : FuncData} {ps : List Str} {sp : Sp} (F : Fun K x x st f fd) (g : mg x = some (.ref f))
    (hb : ∀ (kV doc pm : Value) (an : Option Addr) (cdv ct : Value) (us : List Value), us.length = ps.length → bindArgs (PySem.W.fnOf x x (defArgs st) (defBody st) (defScope st) .none kV doc pm an cdv ct) ⟨us, []⟩ = pure (ps.zip us))
    (ok : FnOk P w K mg base CX k f fd ps sp) : Callee P w K mg base CX k x ps sp := ⟨f, fd, ok, g, F.kp, F.binds hb⟩
theorem calleeG_mk {P : Program} {w : World} {K : PySem.W.Frag} {mg : Str → Option Value} {base : Heap} {CX : CXT} {Γ : Around → Prop} {k : Nat} {x : Str} {st : Stmt} {f : Addr} {fd : FuncData} {ps : List Str} {sp : Pins → Sp} (F : Fun K x x st f fd) (g : mg x = some (.ref f))
    (hb : ∀ (kV doc pm : Value) (an : Option Addr) (cdv ct : Value) (us : List Value), us.length = ps.length → bindArgs (PySem.W.fnOf x x (defArgs st) (defBody st) (defScope st) .none kV doc pm an cdv ct) ⟨us, []⟩ = pure (ps.zip us))
    (ok : FnG P w K mg base CX Γ k f fd ps sp) : CalleeG P w K mg base CX Γ k x ps sp := ⟨f, fd, ok, g, F.kp, F.binds hb⟩

/-- the facts of the text that a walk leans on -/
structure Txt (fa : List He.Fa) (fn : List He.DefD) (base : Str) (es : List (Str × List Str)) (K : PySem.W.Frag) (mg : Str → Option Value) : Prop where
  says : He.SaysD fa fn K
  glo : ∀ x, (He.Fa.glo x).ok K = true → mg x = some (.ref (He.ga K x))
  free : ∀ x, (He.Fa.free x).ok K = true → mg x = none
  numb : ∀ x i, (He.Fa.int x i).ok K = true → ∃ t, mg x = some (.int i t)
  text : ∀ x z, (He.Fa.str x z).ok K = true → ∃ t, mg x = some (.str z t)
  err : errsB K base es = true
theorem txt_of {fa : List He.Fa} {fn : List He.DefD} {base : Str} {es : List (Str × List Str)} {K : PySem.W.Frag} {mg : Str → Option Value} {h : Heap} (X : K.In h) (G : h.Ns mainGlobals mg) (c : He.SaysD fa fn K) (e : errsB K base es = true) : Txt fa fn base es K mg :=
  ⟨c, fun _ q => He.glo_ok X G q, fun _ q => He.free_ok X G q, fun _ _ q => He.int_ok X G q, fun _ _ q => He.str_ok X G q, e⟩
section
variable {fa : List He.Fa} {fn : List He.DefD} {bs : Str} {es : List (Str × List Str)} {K : PySem.W.Frag} {mg : Str → Option Value}
theorem Txt.g (T : Txt fa fn bs es K mg) (i : Nat) {x : Str} (h : fa[i]? = some (.glo x) := by rfl) : mg x = some (.ref (He.ga K x)) := T.glo x (T.says.fact i h)
theorem Txt.n (T : Txt fa fn bs es K mg) (i : Nat) {x : Str} (h : fa[i]? = some (.free x) := by rfl) : mg x = none := T.free x (T.says.fact i h)
theorem Txt.i (T : Txt fa fn bs es K mg) (i : Nat) {x : Str} {z : Int} (h : fa[i]? = some (.int x z) := by rfl) : ∃ t, mg x = some (.int z t) := T.numb x z (T.says.fact i h)
theorem Txt.s (T : Txt fa fn bs es K mg) (i : Nat) {x z : Str} (h : fa[i]? = some (.str x z) := by rfl) : ∃ t, mg x = some (.str z t) := T.text x z (T.says.fact i h)
theorem Txt.base (T : Txt fa fn bs es K mg) : BaseC K (He.ga K bs) := baseB_ok (Bool.and_eq_true_iff.mp T.err).1
theorem Txt.kin (T : Txt fa fn bs es K mg) : Kin K bs (es.map (·.1)) := kinB_ok (Bool.and_eq_true_iff.mp (Bool.and_eq_true_iff.mp T.err).2).1
theorem Txt.each (T : Txt fa fn bs es K mg) : ∀ e ∈ es, ErrC K (He.ga K e.1) e.2 ∧ PySem.W.findIn K (.ref (He.ga K e.1)) "__init__" = some (some (.ref (He.ma K (He.ga K e.1) "__init__"))) ∧ PySem.W.typeIn K (.ref (He.ma K (He.ga K e.1) "__init__")) = some (.type "function") := fun e he => by
  have h := List.all_eq_true.mp (Bool.and_eq_true_iff.mp (Bool.and_eq_true_iff.mp T.err).2).2 e he
  obtain ⟨h1, h2⟩ := Bool.and_eq_true_iff.mp h
  exact ⟨errB_ok h2, (initB_ok h1).1, (initB_ok h1).2⟩
end

/-! ### heaps: all but one thing stands -/
def But (p : Addr) (H H' : Hp) : Prop := ∀ b o, b ≠ p → H b = some o → H' b = some o
theorem But.refl (p : Addr) (H : Hp) : But p H H := fun _ _ _ h => h
theorem But.trans {p : Addr} {H H1 H2 : Hp} (a : But p H H1) (b : But p H1 H2) : But p H H2 := fun c o n h => b c o n (a c o n h)
theorem But.new {p q : Addr} {H : Hp} {o : HO} (h : H q = none) : But p H (upd H q o) := fun b u _ e => by
  rw [upd_ne (ne_of_none e h)]
  exact e
theorem But.set {p : Addr} {H : Hp} {o : HO} : But p H (upd H p o) := fun b u n e => by
  rw [upd_ne n]
  exact e
theorem But.of_same {p : Addr} {H H' : Hp} (h : Same H H') : But p H H' := fun b o _ e => h b o e
theorem Same.new {q : Addr} {H : Hp} {o : HO} (h : H q = none) : Same H (upd H q o) := fun b u e => by
  rw [upd_ne (ne_of_none e h)]
  exact e

theorem But.seq {K : PySem.W.Frag} {p a : Addr} {H H' : Hp} {xs : List V} (b : But p H H') (n : a ≠ p) (h : SqL K H a xs) : SqL K H' a xs := by
  rcases h with (h | ⟨o, h⟩) | h
  · exact .inl (.inl (b a _ n h))
  · exact .inl (.inr ⟨o, b a _ n h⟩)
  · exact .inr h
theorem But.tup {K : PySem.W.Frag} {p a : Addr} {H H' : Hp} {xs : List V} (b : But p H H') (n : a ≠ p) (h : SqT K H a xs) : SqT K H' a xs := by
  rcases h with (h | ⟨o, h⟩) | h
  · exact .inl (.inl (b a _ n h))
  · exact .inl (.inr ⟨o, b a _ n h⟩)
  · exact .inr h
/-! ### the pen -/
def penL (c : Addr) (at_ dg ct fo : Int) : List (Key × V) := [(.inr "cells", .ref c), (.inr "at", .int at_), (.inr "digits", .int dg), (.inr "count", .int ct), (.inr "fold", .int fo)]
/-- a pen at p -/
def PenAt (H : Hp) (p : Addr) : Prop := ∃ (c : Addr) (ns : List Int) (at_ dg ct fo : Int), H p = some (.dK (penL c at_ dg ct fo)) ∧ H c = some (.lst (ns.map V.int)) ∧ ns.length ≤ 63 ∧ 0 ≤ at_ ∧ 0 ≤ dg ∧ 0 ≤ fo ∧ fo < 2147483648
section
variable {c : Addr} {a d n f z : Int}
theorem pen_cells : valV (penL c a d n f) (.inr "cells") = some (.ref c) := by kernel_rfl
theorem pen_at : valV (penL c a d n f) (.inr "at") = some (.int a) := by kernel_rfl
theorem pen_digits : valV (penL c a d n f) (.inr "digits") = some (.int d) := by kernel_rfl
theorem pen_count : valV (penL c a d n f) (.inr "count") = some (.int n) := by kernel_rfl
theorem pen_fold : valV (penL c a d n f) (.inr "fold") = some (.int f) := by kernel_rfl
theorem put_at : putK (penL c a d n f) (.inr "at") (.int z) = penL c z d n f := by kernel_rfl
theorem put_digits : putK (penL c a d n f) (.inr "digits") (.int z) = penL c a z n f := by kernel_rfl
theorem put_count : putK (penL c a d n f) (.inr "count") (.int z) = penL c a d z f := by kernel_rfl
theorem put_fold : putK (penL c a d n f) (.inr "fold") (.int z) = penL c a d n z := by kernel_rfl
theorem pen_made : mergeK [] [(.inr "cells", .ref c), (.inr "at", .int a), (.inr "digits", .int d), (.inr "count", .int n), (.inr "fold", .int f)] = penL c a d n f := by kernel_rfl
end
theorem PenAt.but {H H' : Hp} {p q : Addr} (P : PenAt H p) (b : But q H H') (h1 : p ≠ q) (h2 : ∀ c xs, H c = some (.lst xs) → q ≠ c ∨ (∀ n : List Int, xs ≠ n.map V.int)) : PenAt H' p := by
  obtain ⟨c, ns, a, d, n, f, e1, e2, r⟩ := P
  refine ⟨c, ns, a, d, n, f, b p _ h1 e1, b c _ ?_ e2, r⟩
  rcases h2 c _ e2 with h | h
  · exact h.symm
  · exact absurd rfl (h ns)
theorem PenAt.same {H H' : Hp} {p : Addr} (P : PenAt H p) (b : Same H H') : PenAt H' p := by
  obtain ⟨c, ns, a, d, n, f, e1, e2, r⟩ := P
  exact ⟨c, ns, a, d, n, f, b p _ e1, b c _ e2, r⟩

def spPen (K : PySem.W.Frag) : Sp := fun vs H Q _ => ∃ (a : Addr) (ns : List Int), vs = [.ref a] ∧ SqL K H a (ns.map V.int) ∧ ns.length ≤ 63 ∧ ∀ (p : Addr) (H' : Hp), PenAt H' p → H p = none → Same H H' → Q (.ref p) H'
def spDraw : Sp := fun vs H Q _ => ∃ (p : Addr) (m : Int), vs = [.ref p, .int m] ∧ PenAt H p ∧ 0 < m ∧ m < 1073741824 ∧ ∀ (r : Int) (H' : Hp), 0 ≤ r → r < m → PenAt H' p → But p H H' → Q (.int r) H'
def spPick (K : PySem.W.Frag) : Sp := fun vs H Q _ => ∃ (p l : Addr) (xs : List V), vs = [.ref p, .ref l] ∧ l ≠ p ∧ PenAt H p ∧ (SqL K H l xs ∨ SqT K H l xs) ∧ 0 < xs.length ∧ xs.length < 1000000 ∧ ∀ (i : Nat) (x : V) (H' : Hp), xs[i]? = some x → PenAt H' p → But p H H' → Q x H'
theorem fold_ok (z : Int) : 0 ≤ z % 2147483647 ∧ z % 2147483647 < 2147483648 := by
  have h1 := Int.emod_nonneg z (show (2147483647 : Int) ≠ 0 by decide)
  have h2 := Int.emod_lt_of_pos z (show (0 : Int) < 2147483647 by decide)
  omega
end Tc
namespace Tc
open PySem PySem.Spec PyProof.Rows L2
/-- the pen's fields read, written -/
theorem rd_pen {σ : L2.St} {H : Hp} {Q : VK} {p : Addr} {kvs : List (Key × V)} {x : Str} {v : V} {i : Nat} (h : σ[i]? = some (some (.ref p))) (e : H p = some (.dK kvs)) (hv : valV kvs (.inr x) = some v) (q : Q v H) : tDGet (tVar i) (tC (.str x)) σ H Q :=
  ⟨_, h, p, v, rfl, hv ▸ DGet.k (k := .inr x) e, q⟩
theorem wr_pen {σ : L2.St} {H : Hp} {D : Ends} {p : Addr} {kvs : List (Key × V)} {x : Str} {v : V} {i : Nat} (h : σ[i]? = some (some (.ref p))) (e : H p = some (.dK kvs)) (hl : kvs.length ≤ 1000) (q : D.nx σ (upd H p (.dK (putK kvs (.inr x) v)))) :
    tVar i σ H fun y H2 => tC (.str x) σ H2 fun z H3 => ∃ a H4, y = .ref a ∧ DPut H3 a z v H4 ∧ D.nx σ H4 :=
  ⟨_, h, p, _, rfl, DPut.k (k := .inr x) e (small1000 hl), q⟩
theorem penL_len {c : Addr} {a d n f : Int} : (penL c a d n f).length ≤ 1000 := by show 5 ≤ 1000; decide
end Tc
/-! The errors' own __init__: what it leaves; raise C(..) -/
namespace Tc
open PySem PySem.Spec PyProof.Rows L2
open L2H (RoomH PinOk)

/-- C.__init__(self, ..) stores its arguments, fs their names (the last stored first) -/
def spInit (K : PySem.W.Frag) (C : Addr) (n : Nat) (fs : List V → List (Str × V)) : Sp := fun vs H Q _ => ∃ (a : Addr) (xs : List V), vs = .ref a :: xs ∧ xs.length = n ∧ H a = some (exo a C none) ∧ OexC K C ∧
  ∀ (d : Addr) (H' : Hp), H d = none → H' a = some (exo a C (some d)) → H' d = some (exd d (fs xs)) → But a H H' → Q .non H'
/-- the same where nothing is stored -/
def spInit0 (K : PySem.W.Frag) (C : Addr) : Sp := fun vs H Q _ => ∃ a : Addr, vs = [.ref a] ∧ H a = some (exo a C none) ∧ OexC K C ∧ Q .non H
structure InitAt (P : Program) (w : World) (K : PySem.W.Frag) (mg : Str → Option Value) (base : Heap) (x : Str) (ps : List Str) (sp : Sp) : Prop where
  ex : ∃ fd : FuncData, FnOk P w K mg base CX0 1 (He.ma K (He.ga K x) "__init__") fd ps sp ∧ Binds K fd ps []
  oex : OexC K (He.ga K x)
  ini : PySem.W.findIn K (.ref (He.ga K x)) "__init__" = some (some (.ref (He.ma K (He.ga K x) "__init__")))
  typ : PySem.W.typeIn K (.ref (He.ma K (He.ga K x) "__init__")) = some (.type "function")
  glob : mg x = some (.ref (He.ga K x))
section
variable {X : Cx} {x : Str} {ps : List Str} {n : Nat} {fs : List V → List (Str × V)} {e : Expr} {es : List Expr} {ta : TA} {p pos : Pos} {j : Nat}
/-- C(e, ..) as the operand of raise -/
def tMade (C : Addr) (n : Nat) (fs : List V → List (Str × V)) (ta : TA) : L2.St → Hp → XK → Prop := fun σ H Q => ta σ H fun vs H1 => vs.length = n ∧ n ≤ 1000 ∧ ∀ (d : Addr) (H' : Hp), H1 d = none → H' d = some (.xd (fs vs)) → Same H1 H' → Q (.ref C) (some d) H'
theorem pmk_mono {X : Cx} {e : Expr} {t u : L2.St → Hp → XK → Prop} (h : PMk X e u) (w : ∀ σ H Q, t σ H Q → u σ H Q) : PMk X e t := fun pins s σ H Q I z => h pins s σ H Q I (w _ _ _ z)
theorem pmk_f (c : InitAt X.prog X.w X.K X.mg X.base x ps (spInit X.K (He.ga X.K x) n fs)) (hr : Room j X.A) (ha : PA X (e :: es) ta) (hm : ∀ σ H Q Q', ta σ H Q → (∀ vs H, Q vs H → Q' vs H) → ta σ H Q') (hk : 2 ≤ j := by decide) (hg : Gl X x := by rfl)
    (hdb : (x == ("__debug__" : Str)) = false := by decide) (he : starEach (e :: es) X.env = (false, eval e X.env) :: starEach es X.env := by rfl) (hpl : (backTo pos (starEach es X.env)).any (·.1) = false := by rfl) :
    PMk X (.Call (.Name x p) (e :: es) [] pos) (tMade (He.ga X.K x) n fs ta) := by
  obtain ⟨fd, F, b⟩ := c.ex
  refine pmk_mono (pmk_oex c.oex c.ini c.typ F (hr.mono hk) b .nil pass0 hg c.glob ha hdb he hpl) fun σ H Q h => hm _ _ _ _ h fun vs H1 ⟨hl, hn, k⟩ => ⟨by omega, fun a na => ?_⟩
  rw [List.append_nil]
  refine ⟨a, vs, rfl, hl, upd_same, c.oex, fun d H2 nd ea ed bt => ⟨rfl, d, fs vs, ea, ed, ?_, ?_⟩⟩
  · by_cases z : d = a
    · rw [z]; exact na
    · rw [upd_ne z] at nd; exact nd
  · have nda : d ≠ a := fun z => by rw [z, upd_same] at nd; cases nd
    have nd1 : H1 d = none := by rw [upd_ne nda] at nd; exact nd
    refine k d _ nd1 upd_same fun b o eb => ?_
    have nba := ne_of_none eb na
    rw [upd_ne (ne_of_none eb nd1), del_ne nba]
    exact bt b o nba (by rw [upd_ne nba]; exact eb)
/-- C() -/
def tMade0 (C : Addr) : L2.St → Hp → XK → Prop := fun _ H Q => Q (.ref C) none H
theorem pmk_f0 (c : InitAt X.prog X.w X.K X.mg X.base x ps (spInit0 X.K (He.ga X.K x))) (hr : Room j X.A) (hk : 2 ≤ j := by decide) (hg : Gl X x := by rfl) (hdb : (x == ("__debug__" : Str)) = false := by decide) :
    PMk X (.Call (.Name x p) [] [] pos) (tMade0 (He.ga X.K x)) := by
  obtain ⟨fd, F, b⟩ := c.ex
  refine pmk_mono (pmk_bare c.oex c.ini c.typ F (hr.mono hk) b pass0 hg c.glob hdb) fun σ H Q h a na => ⟨a, rfl, upd_same, c.oex, rfl, upd_same, ?_⟩
  have e : del (upd H a (exo a (He.ga X.K x) none)) a = H := by
    funext b
    by_cases z : b = a
    · rw [z, del_same, na]
    · rw [del_ne z, upd_ne z]
  rw [e]
  exact h
end
end Tc
namespace K00
open PySem PySem.Spec PyProof.Rows L2 Tc
def top (i : Nat) : Stmt := PySem.Challenge.pw_treeclaims_k00_errors_as_told.main.body.getD i (.Pass ⟨0, 0, 0, 0⟩)
abbrev s_BadText_init : Stmt := inClass (top 2) 0
abbrev s_BadName_init : Stmt := inClass (top 3) 0
abbrev s_BadNumber_init : Stmt := inClass (top 4) 0
abbrev s_BadRow_init : Stmt := inClass (top 5) 0
abbrev s_NoName_init : Stmt := inClass (top 6) 0
abbrev s_TakenName_init : Stmt := inClass (top 7) 0
abbrev s_Unlike_init : Stmt := inClass (top 8) 0
abbrev s_TooMany_init : Stmt := inClass (top 9) 0
abbrev s_NotKept_init : Stmt := inClass (top 10) 0
abbrev s_NothingToUndo_init : Stmt := inClass (top 11) 0
abbrev s_NothingToRedo_init : Stmt := inClass (top 12) 0
abbrev s_law_pen : Stmt := top 14
abbrev s_law_draw : Stmt := top 15
abbrev s_law_pick : Stmt := top 16
abbrev s_law_value : Stmt := top 17
abbrev s_law_classes : Stmt := top 18
abbrev s_law_more_kinds : Stmt := top 19
abbrev s_law_fall : Stmt := top 20
abbrev s_law_other_fall : Stmt := top 21
abbrev s_law_fields : Stmt := top 22
abbrev s_law_one : Stmt := top 23
abbrev s_law : Stmt := top 24
def d_BadText_init : He.DefD := ⟨("BadText", some "__init__"), "__init__", "BadText.__init__", defArgs s_BadText_init, defBody s_BadText_init, defScope s_BadText_init, [], []⟩
def d_BadName_init : He.DefD := ⟨("BadName", some "__init__"), "__init__", "BadName.__init__", defArgs s_BadName_init, defBody s_BadName_init, defScope s_BadName_init, [], []⟩
def d_BadNumber_init : He.DefD := ⟨("BadNumber", some "__init__"), "__init__", "BadNumber.__init__", defArgs s_BadNumber_init, defBody s_BadNumber_init, defScope s_BadNumber_init, [], []⟩
def d_BadRow_init : He.DefD := ⟨("BadRow", some "__init__"), "__init__", "BadRow.__init__", defArgs s_BadRow_init, defBody s_BadRow_init, defScope s_BadRow_init, [], []⟩
def d_NoName_init : He.DefD := ⟨("NoName", some "__init__"), "__init__", "NoName.__init__", defArgs s_NoName_init, defBody s_NoName_init, defScope s_NoName_init, [], []⟩
def d_TakenName_init : He.DefD := ⟨("TakenName", some "__init__"), "__init__", "TakenName.__init__", defArgs s_TakenName_init, defBody s_TakenName_init, defScope s_TakenName_init, [], []⟩
def d_Unlike_init : He.DefD := ⟨("Unlike", some "__init__"), "__init__", "Unlike.__init__", defArgs s_Unlike_init, defBody s_Unlike_init, defScope s_Unlike_init, [], []⟩
def d_TooMany_init : He.DefD := ⟨("TooMany", some "__init__"), "__init__", "TooMany.__init__", defArgs s_TooMany_init, defBody s_TooMany_init, defScope s_TooMany_init, [], []⟩
def d_NotKept_init : He.DefD := ⟨("NotKept", some "__init__"), "__init__", "NotKept.__init__", defArgs s_NotKept_init, defBody s_NotKept_init, defScope s_NotKept_init, [], []⟩
def d_NothingToUndo_init : He.DefD := ⟨("NothingToUndo", some "__init__"), "__init__", "NothingToUndo.__init__", defArgs s_NothingToUndo_init, defBody s_NothingToUndo_init, defScope s_NothingToUndo_init, [], []⟩
def d_NothingToRedo_init : He.DefD := ⟨("NothingToRedo", some "__init__"), "__init__", "NothingToRedo.__init__", defArgs s_NothingToRedo_init, defBody s_NothingToRedo_init, defScope s_NothingToRedo_init, [], []⟩
def d_law_pen : He.DefD := ⟨("_law_pen", none), "_law_pen", "_law_pen", defArgs s_law_pen, defBody s_law_pen, defScope s_law_pen, [], []⟩
def d_law_draw : He.DefD := ⟨("_law_draw", none), "_law_draw", "_law_draw", defArgs s_law_draw, defBody s_law_draw, defScope s_law_draw, [], []⟩
def d_law_pick : He.DefD := ⟨("_law_pick", none), "_law_pick", "_law_pick", defArgs s_law_pick, defBody s_law_pick, defScope s_law_pick, [], []⟩
def d_law_value : He.DefD := ⟨("_law_value", none), "_law_value", "_law_value", defArgs s_law_value, defBody s_law_value, defScope s_law_value, [], []⟩
def d_law_classes : He.DefD := ⟨("_law_classes", none), "_law_classes", "_law_classes", defArgs s_law_classes, defBody s_law_classes, defScope s_law_classes, [], []⟩
def d_law_more_kinds : He.DefD := ⟨("_law_more_kinds", none), "_law_more_kinds", "_law_more_kinds", defArgs s_law_more_kinds, defBody s_law_more_kinds, defScope s_law_more_kinds, [], []⟩
def d_law_fall : He.DefD := ⟨("_law_fall", none), "_law_fall", "_law_fall", defArgs s_law_fall, defBody s_law_fall, defScope s_law_fall, [], []⟩
def d_law_other_fall : He.DefD := ⟨("_law_other_fall", none), "_law_other_fall", "_law_other_fall", defArgs s_law_other_fall, defBody s_law_other_fall, defScope s_law_other_fall, [], []⟩
def d_law_fields : He.DefD := ⟨("_law_fields", none), "_law_fields", "_law_fields", defArgs s_law_fields, defBody s_law_fields, defScope s_law_fields, [], []⟩
def d_law_one : He.DefD := ⟨("_law_one", none), "_law_one", "_law_one", defArgs s_law_one, defBody s_law_one, defScope s_law_one, [], []⟩
def d_law : He.DefD := ⟨("law", none), "law", "law", defArgs s_law, defBody s_law, defScope s_law, [], []⟩
def fn : List He.DefD := [d_BadText_init, d_BadName_init, d_BadNumber_init, d_BadRow_init, d_NoName_init, d_TakenName_init, d_Unlike_init, d_TooMany_init, d_NotKept_init, d_NothingToUndo_init, d_NothingToRedo_init, d_law_pen, d_law_draw, d_law_pick, d_law_value, d_law_classes, d_law_more_kinds, d_law_fall, d_law_other_fall, d_law_fields, d_law_one, d_law]

def errs : List (Str × List Str) := [("BadText", ["line", "word", "name", "what", "number", "row", "many", "limit", "promise", "witness"]), ("BadName", ["line", "word", "name", "what", "number", "row", "many", "limit", "promise", "witness"]), ("BadNumber", ["line", "word", "name", "what", "number", "row", "many", "limit", "promise", "witness"]), ("BadRow", ["line", "word", "name", "what", "number", "row", "many", "limit", "promise", "witness"]), ("NoName", ["line", "word", "name", "what", "number", "row", "many", "limit", "promise", "witness"]), ("TakenName", ["line", "word", "name", "what", "number", "row", "many", "limit", "promise", "witness"]), ("Unlike", ["line", "word", "name", "what", "number", "row", "many", "limit", "promise", "witness"]), ("TooMany", ["line", "word", "name", "what", "number", "row", "many", "limit", "promise", "witness"]), ("NotKept", ["line", "word", "name", "what", "number", "row", "many", "limit", "promise", "witness"]), ("NothingToUndo", ["line", "word", "name", "what", "number", "row", "many", "limit", "promise", "witness"]), ("NothingToRedo", ["line", "word", "name", "what", "number", "row", "many", "limit", "promise", "witness"])]
def fa : List He.Fa := [.glo "TreeError", .glo "BadText", .glo "BadName", .glo "BadNumber", .glo "BadRow", .glo "NoName", .glo "TakenName", .glo "Unlike", .glo "TooMany", .glo "NotKept", .glo "NothingToUndo", .glo "NothingToRedo", .glo "_law_pen", .glo "_law_draw", .glo "_law_pick", .glo "_law_value", .glo "_law_classes", .glo "_law_more_kinds", .glo "_law_fall", .glo "_law_other_fall", .glo "_law_fields", .glo "_law_one", .free "ValueError", .free "int", .free "isinstance", .free "len", .free "list", .free "range", .free "repr", .free "zip", .glo "law"]
def tf : List He.Defn := []
def ex (K : PySem.W.Frag) : Bool := errsB K "TreeError" errs
abbrev TX (K : PySem.W.Frag) (mg : Str → Option Value) : Prop := Txt fa fn "TreeError" errs K mg
section
variable {K : PySem.W.Frag} {mg : Str → Option Value}
theorem g_TreeError (T : TX K mg) : mg "TreeError" = some (.ref (He.ga K "TreeError")) := T.g 0
theorem g_BadText (T : TX K mg) : mg "BadText" = some (.ref (He.ga K "BadText")) := T.g 1
theorem g_BadName (T : TX K mg) : mg "BadName" = some (.ref (He.ga K "BadName")) := T.g 2
theorem g_BadNumber (T : TX K mg) : mg "BadNumber" = some (.ref (He.ga K "BadNumber")) := T.g 3
theorem g_BadRow (T : TX K mg) : mg "BadRow" = some (.ref (He.ga K "BadRow")) := T.g 4
theorem g_NoName (T : TX K mg) : mg "NoName" = some (.ref (He.ga K "NoName")) := T.g 5
theorem g_TakenName (T : TX K mg) : mg "TakenName" = some (.ref (He.ga K "TakenName")) := T.g 6
theorem g_Unlike (T : TX K mg) : mg "Unlike" = some (.ref (He.ga K "Unlike")) := T.g 7
theorem g_TooMany (T : TX K mg) : mg "TooMany" = some (.ref (He.ga K "TooMany")) := T.g 8
theorem g_NotKept (T : TX K mg) : mg "NotKept" = some (.ref (He.ga K "NotKept")) := T.g 9
theorem g_NothingToUndo (T : TX K mg) : mg "NothingToUndo" = some (.ref (He.ga K "NothingToUndo")) := T.g 10
theorem g_NothingToRedo (T : TX K mg) : mg "NothingToRedo" = some (.ref (He.ga K "NothingToRedo")) := T.g 11
theorem g_law_pen (T : TX K mg) : mg "_law_pen" = some (.ref (He.ga K "_law_pen")) := T.g 12
theorem g_law_draw (T : TX K mg) : mg "_law_draw" = some (.ref (He.ga K "_law_draw")) := T.g 13
theorem g_law_pick (T : TX K mg) : mg "_law_pick" = some (.ref (He.ga K "_law_pick")) := T.g 14
theorem g_law_value (T : TX K mg) : mg "_law_value" = some (.ref (He.ga K "_law_value")) := T.g 15
theorem g_law_classes (T : TX K mg) : mg "_law_classes" = some (.ref (He.ga K "_law_classes")) := T.g 16
theorem g_law_more_kinds (T : TX K mg) : mg "_law_more_kinds" = some (.ref (He.ga K "_law_more_kinds")) := T.g 17
theorem g_law_fall (T : TX K mg) : mg "_law_fall" = some (.ref (He.ga K "_law_fall")) := T.g 18
theorem g_law_other_fall (T : TX K mg) : mg "_law_other_fall" = some (.ref (He.ga K "_law_other_fall")) := T.g 19
theorem g_law_fields (T : TX K mg) : mg "_law_fields" = some (.ref (He.ga K "_law_fields")) := T.g 20
theorem g_law_one (T : TX K mg) : mg "_law_one" = some (.ref (He.ga K "_law_one")) := T.g 21
theorem g_ValueError (T : TX K mg) : mg "ValueError" = none := T.n 22
theorem g_int (T : TX K mg) : mg "int" = none := T.n 23
theorem g_isinstance (T : TX K mg) : mg "isinstance" = none := T.n 24
theorem g_len (T : TX K mg) : mg "len" = none := T.n 25
theorem g_list (T : TX K mg) : mg "list" = none := T.n 26
theorem g_range (T : TX K mg) : mg "range" = none := T.n 27
theorem g_repr (T : TX K mg) : mg "repr" = none := T.n 28
theorem g_zip (T : TX K mg) : mg "zip" = none := T.n 29
theorem g_law (T : TX K mg) : mg "law" = some (.ref (He.ga K "law")) := T.g 30
theorem F_BadText_init (T : TX K mg) : ∃ fd, Fun K "__init__" "BadText.__init__" s_BadText_init (He.ma K (He.ga K "BadText") "__init__") fd := by
  obtain ⟨fd, F⟩ := T.says.def_ 0 (d := d_BadText_init) rfl
  exact ⟨fd, fun_of F⟩
theorem F_BadName_init (T : TX K mg) : ∃ fd, Fun K "__init__" "BadName.__init__" s_BadName_init (He.ma K (He.ga K "BadName") "__init__") fd := by
  obtain ⟨fd, F⟩ := T.says.def_ 1 (d := d_BadName_init) rfl
  exact ⟨fd, fun_of F⟩
theorem F_BadNumber_init (T : TX K mg) : ∃ fd, Fun K "__init__" "BadNumber.__init__" s_BadNumber_init (He.ma K (He.ga K "BadNumber") "__init__") fd := by
  obtain ⟨fd, F⟩ := T.says.def_ 2 (d := d_BadNumber_init) rfl
  exact ⟨fd, fun_of F⟩
theorem F_BadRow_init (T : TX K mg) : ∃ fd, Fun K "__init__" "BadRow.__init__" s_BadRow_init (He.ma K (He.ga K "BadRow") "__init__") fd := by
  obtain ⟨fd, F⟩ := T.says.def_ 3 (d := d_BadRow_init) rfl
  exact ⟨fd, fun_of F⟩
theorem F_NoName_init (T : TX K mg) : ∃ fd, Fun K "__init__" "NoName.__init__" s_NoName_init (He.ma K (He.ga K "NoName") "__init__") fd := by
  obtain ⟨fd, F⟩ := T.says.def_ 4 (d := d_NoName_init) rfl
  exact ⟨fd, fun_of F⟩
theorem F_TakenName_init (T : TX K mg) : ∃ fd, Fun K "__init__" "TakenName.__init__" s_TakenName_init (He.ma K (He.ga K "TakenName") "__init__") fd := by
  obtain ⟨fd, F⟩ := T.says.def_ 5 (d := d_TakenName_init) rfl
  exact ⟨fd, fun_of F⟩
theorem F_Unlike_init (T : TX K mg) : ∃ fd, Fun K "__init__" "Unlike.__init__" s_Unlike_init (He.ma K (He.ga K "Unlike") "__init__") fd := by
  obtain ⟨fd, F⟩ := T.says.def_ 6 (d := d_Unlike_init) rfl
  exact ⟨fd, fun_of F⟩
theorem F_TooMany_init (T : TX K mg) : ∃ fd, Fun K "__init__" "TooMany.__init__" s_TooMany_init (He.ma K (He.ga K "TooMany") "__init__") fd := by
  obtain ⟨fd, F⟩ := T.says.def_ 7 (d := d_TooMany_init) rfl
  exact ⟨fd, fun_of F⟩
theorem F_NotKept_init (T : TX K mg) : ∃ fd, Fun K "__init__" "NotKept.__init__" s_NotKept_init (He.ma K (He.ga K "NotKept") "__init__") fd := by
  obtain ⟨fd, F⟩ := T.says.def_ 8 (d := d_NotKept_init) rfl
  exact ⟨fd, fun_of F⟩
theorem F_NothingToUndo_init (T : TX K mg) : ∃ fd, Fun K "__init__" "NothingToUndo.__init__" s_NothingToUndo_init (He.ma K (He.ga K "NothingToUndo") "__init__") fd := by
  obtain ⟨fd, F⟩ := T.says.def_ 9 (d := d_NothingToUndo_init) rfl
  exact ⟨fd, fun_of F⟩
theorem F_NothingToRedo_init (T : TX K mg) : ∃ fd, Fun K "__init__" "NothingToRedo.__init__" s_NothingToRedo_init (He.ma K (He.ga K "NothingToRedo") "__init__") fd := by
  obtain ⟨fd, F⟩ := T.says.def_ 10 (d := d_NothingToRedo_init) rfl
  exact ⟨fd, fun_of F⟩
theorem F_law_pen (T : TX K mg) : ∃ fd, Fun K "_law_pen" "_law_pen" s_law_pen (He.ga K "_law_pen") fd := by
  obtain ⟨fd, F⟩ := T.says.def_ 11 (d := d_law_pen) rfl
  exact ⟨fd, fun_of F⟩
theorem F_law_draw (T : TX K mg) : ∃ fd, Fun K "_law_draw" "_law_draw" s_law_draw (He.ga K "_law_draw") fd := by
  obtain ⟨fd, F⟩ := T.says.def_ 12 (d := d_law_draw) rfl
  exact ⟨fd, fun_of F⟩
theorem F_law_pick (T : TX K mg) : ∃ fd, Fun K "_law_pick" "_law_pick" s_law_pick (He.ga K "_law_pick") fd := by
  obtain ⟨fd, F⟩ := T.says.def_ 13 (d := d_law_pick) rfl
  exact ⟨fd, fun_of F⟩
theorem F_law_value (T : TX K mg) : ∃ fd, Fun K "_law_value" "_law_value" s_law_value (He.ga K "_law_value") fd := by
  obtain ⟨fd, F⟩ := T.says.def_ 14 (d := d_law_value) rfl
  exact ⟨fd, fun_of F⟩
theorem F_law_classes (T : TX K mg) : ∃ fd, Fun K "_law_classes" "_law_classes" s_law_classes (He.ga K "_law_classes") fd := by
  obtain ⟨fd, F⟩ := T.says.def_ 15 (d := d_law_classes) rfl
  exact ⟨fd, fun_of F⟩
theorem F_law_more_kinds (T : TX K mg) : ∃ fd, Fun K "_law_more_kinds" "_law_more_kinds" s_law_more_kinds (He.ga K "_law_more_kinds") fd := by
  obtain ⟨fd, F⟩ := T.says.def_ 16 (d := d_law_more_kinds) rfl
  exact ⟨fd, fun_of F⟩
theorem F_law_fall (T : TX K mg) : ∃ fd, Fun K "_law_fall" "_law_fall" s_law_fall (He.ga K "_law_fall") fd := by
  obtain ⟨fd, F⟩ := T.says.def_ 17 (d := d_law_fall) rfl
  exact ⟨fd, fun_of F⟩
theorem F_law_other_fall (T : TX K mg) : ∃ fd, Fun K "_law_other_fall" "_law_other_fall" s_law_other_fall (He.ga K "_law_other_fall") fd := by
  obtain ⟨fd, F⟩ := T.says.def_ 18 (d := d_law_other_fall) rfl
  exact ⟨fd, fun_of F⟩
theorem F_law_fields (T : TX K mg) : ∃ fd, Fun K "_law_fields" "_law_fields" s_law_fields (He.ga K "_law_fields") fd := by
  obtain ⟨fd, F⟩ := T.says.def_ 19 (d := d_law_fields) rfl
  exact ⟨fd, fun_of F⟩
theorem F_law_one (T : TX K mg) : ∃ fd, Fun K "_law_one" "_law_one" s_law_one (He.ga K "_law_one") fd := by
  obtain ⟨fd, F⟩ := T.says.def_ 20 (d := d_law_one) rfl
  exact ⟨fd, fun_of F⟩
theorem F_law (T : TX K mg) : ∃ fd, Fun K "law" "law" s_law (He.ga K "law") fd := by
  obtain ⟨fd, F⟩ := T.says.def_ 21 (d := d_law) rfl
  exact ⟨fd, fun_of F⟩
end
theorem sc_BadText_init : FnScope ["self", "line", "word"] ["self", "line", "word"] (defScope s_BadText_init) := ⟨rfl, rfl, rfl, by decide +kernel, rfl, by decide +kernel, by decide +kernel⟩
-- slots of BadText_init: 0:self 1:line 2:word
theorem sc_BadName_init : FnScope ["self", "name"] ["self", "name"] (defScope s_BadName_init) := ⟨rfl, rfl, rfl, by decide +kernel, rfl, by decide +kernel, by decide +kernel⟩
-- slots of BadName_init: 0:self 1:name
theorem sc_BadNumber_init : FnScope ["self", "what", "number"] ["self", "what", "number"] (defScope s_BadNumber_init) := ⟨rfl, rfl, rfl, by decide +kernel, rfl, by decide +kernel, by decide +kernel⟩
-- slots of BadNumber_init: 0:self 1:what 2:number
theorem sc_BadRow_init : FnScope ["self", "what", "row"] ["self", "what", "row"] (defScope s_BadRow_init) := ⟨rfl, rfl, rfl, by decide +kernel, rfl, by decide +kernel, by decide +kernel⟩
-- slots of BadRow_init: 0:self 1:what 2:row
theorem sc_NoName_init : FnScope ["self", "name"] ["self", "name"] (defScope s_NoName_init) := ⟨rfl, rfl, rfl, by decide +kernel, rfl, by decide +kernel, by decide +kernel⟩
-- slots of NoName_init: 0:self 1:name
theorem sc_TakenName_init : FnScope ["self", "name"] ["self", "name"] (defScope s_TakenName_init) := ⟨rfl, rfl, rfl, by decide +kernel, rfl, by decide +kernel, by decide +kernel⟩
-- slots of TakenName_init: 0:self 1:name
theorem sc_Unlike_init : FnScope ["self", "what"] ["self", "what"] (defScope s_Unlike_init) := ⟨rfl, rfl, rfl, by decide +kernel, rfl, by decide +kernel, by decide +kernel⟩
-- slots of Unlike_init: 0:self 1:what
theorem sc_TooMany_init : FnScope ["self", "what", "many", "limit"] ["self", "what", "many", "limit"] (defScope s_TooMany_init) := ⟨rfl, rfl, rfl, by decide +kernel, rfl, by decide +kernel, by decide +kernel⟩
-- slots of TooMany_init: 0:self 1:what 2:many 3:limit
theorem sc_NotKept_init : FnScope ["self", "promise", "witness"] ["self", "promise", "witness"] (defScope s_NotKept_init) := ⟨rfl, rfl, rfl, by decide +kernel, rfl, by decide +kernel, by decide +kernel⟩
-- slots of NotKept_init: 0:self 1:promise 2:witness
theorem sc_NothingToUndo_init : FnScope ["self"] ["self"] (defScope s_NothingToUndo_init) := ⟨rfl, rfl, rfl, by decide +kernel, rfl, by decide +kernel, by decide +kernel⟩
-- slots of NothingToUndo_init: 0:self
theorem sc_NothingToRedo_init : FnScope ["self"] ["self"] (defScope s_NothingToRedo_init) := ⟨rfl, rfl, rfl, by decide +kernel, rfl, by decide +kernel, by decide +kernel⟩
-- slots of NothingToRedo_init: 0:self
theorem sc_law_pen : FnScope ["script", "fold", "cell"] ["script"] (defScope s_law_pen) := ⟨rfl, rfl, rfl, by decide +kernel, rfl, by decide +kernel, by decide +kernel⟩
-- slots of _law_pen: 0:script 1:fold 2:cell
theorem sc_law_draw : FnScope ["pen", "many", "cell", "digit", "blend"] ["pen", "many"] (defScope s_law_draw) := ⟨rfl, rfl, rfl, by decide +kernel, rfl, by decide +kernel, by decide +kernel⟩
-- slots of _law_draw: 0:pen 1:many 2:cell 3:digit 4:blend
theorem sc_law_pick : FnScope ["pen", "some"] ["pen", "some"] (defScope s_law_pick) := ⟨rfl, rfl, rfl, by decide +kernel, rfl, by decide +kernel, by decide +kernel⟩
-- slots of _law_pick: 0:pen 1:some
theorem sc_law_value : FnScope ["pen", "way"] ["pen"] (defScope s_law_value) := ⟨rfl, rfl, rfl, by decide +kernel, rfl, by decide +kernel, by decide +kernel⟩
-- slots of _law_value: 0:pen 1:way
theorem sc_law_classes : FnScope ["e", "found"] ["e"] (defScope s_law_classes) := ⟨rfl, rfl, rfl, by decide +kernel, rfl, by decide +kernel, by decide +kernel⟩
-- slots of _law_classes: 0:e 1:found
theorem sc_law_more_kinds : FnScope ["e", "found"] ["e"] (defScope s_law_more_kinds) := ⟨rfl, rfl, rfl, by decide +kernel, rfl, by decide +kernel, by decide +kernel⟩
-- slots of _law_more_kinds: 0:e 1:found
theorem sc_law_fall : FnScope ["kind", "one", "two", "three"] ["kind", "one", "two", "three"] (defScope s_law_fall) := ⟨rfl, rfl, rfl, by decide +kernel, rfl, by decide +kernel, by decide +kernel⟩
-- slots of _law_fall: 0:kind 1:one 2:two 3:three
theorem sc_law_other_fall : FnScope ["kind", "one", "two", "three"] ["kind", "one", "two", "three"] (defScope s_law_other_fall) := ⟨rfl, rfl, rfl, by decide +kernel, rfl, by decide +kernel, by decide +kernel⟩
-- slots of _law_other_fall: 0:kind 1:one 2:two 3:three
theorem sc_law_fields : FnScope ["kind", "e"] ["kind", "e"] (defScope s_law_fields) := ⟨rfl, rfl, rfl, by decide +kernel, rfl, by decide +kernel, by decide +kernel⟩
-- slots of _law_fields: 0:kind 1:e
theorem sc_law_one : FnScope ["kind", "one", "two", "three", "found", "e"] ["kind", "one", "two", "three"] (defScope s_law_one) := ⟨rfl, rfl, rfl, by decide +kernel, rfl, by decide +kernel, by decide +kernel⟩
-- slots of _law_one: 0:kind 1:one 2:two 3:three 4:found 5:e
theorem sc_law : FnScope ["script", "pen", "names", "sizes", "kind", "one", "two", "three", "told", "due", "field", "value"] ["script"] (defScope s_law) := ⟨rfl, rfl, rfl, by decide +kernel, rfl, by decide +kernel, by decide +kernel⟩
-- slots of law: 0:script 1:pen 2:names 3:sizes 4:kind 5:one 6:two 7:three 8:told 9:due 10:field 11:value
end K00
namespace K00
open PySem PySem.Spec PyProof.Rows L2 Tc
section
variable {P : Program} {w : World} {K : PySem.W.Frag} {mg : Str → Option Value} {base : Heap}
theorem c_law_pen (T : TX K mg) : Callee P w K mg base CX0 1 "_law_pen" ["script"] (spPen K) := by
  obtain ⟨fd, F⟩ := F_law_pen T
  refine callee_mk F (g_law_pen T) (fun _ _ _ _ _ _ us hl => match us, hl with | [_], _ => rfl) ?_
  refine F.ok sc_law_pen (fun vs H Q E h => by obtain ⟨a, ns, rfl, _⟩ := h; rfl) fun cdv A outer s H vs Q E hr h => ?_
  obtain ⟨a, ns, rfl, hS, hl, k⟩ := h
  refine ⟨_, pss_cons (ps_set (i := 1) sc_law_pen.nd rfl (Or.inl rfl) pe_int)
    (pss_cons (ps_for PassesOwn.never rfl (pi_list (pv 0)) (pg_name (i := 2) sc_law_pen.nd rfl (Or.inl rfl))
      (pss_one (ps_set (i := 1) sc_law_pen.nd rfl (Or.inl rfl) (pe_op op_mod (pe_callTy call_int1 (by rfl) (g_int T) PyProof.Rows.boot_int (pa_cons (pe_op op_add (pe_op op_mul (pv 1) pe_int) (pv 2)) pa_nil)) pe_int))))
    (pss_one (ps_ret (pe_disp (pps_cons pe_str (pe_callTy call_list_of (by rfl) (g_list T) PyProof.Rows.boot_list (pa_cons (pv 0) pa_nil)) (pps_cons pe_str pe_int (pps_cons pe_str pe_int (pps_cons pe_str pe_int (pps_cons pe_str (pv 1) pps_nil))))) rfl rfl (by simp) (by decide))))), ?_⟩
  refine ⟨_, rfl, a, rfl, ⟨_, hS⟩, for_list (K := K) (a := a) (xs := ns.map V.int) (fun _ σ H1 => ∃ (f : Int) (v : Option V), σ = [some (.ref a), some (.int f), v] ∧ H1 = H ∧ 0 ≤ f ∧ f < 2147483648) ⟨0, none, rfl, rfl, by decide, by decide⟩ (fun _ σ H1 _ ⟨_, _, _, e, _⟩ => e ▸ hS) ?_ ?_⟩
  · rintro i y σ H1 hi ⟨f, v, rfl, rfl, h0, h1⟩
    obtain ⟨z, rfl⟩ : ∃ z, y = V.int z := by
      rw [List.getElem?_map] at hi
      cases e : ns[i]? with
      | none => rw [e] at hi; cases hi
      | some z => rw [e] at hi; exact ⟨z, (Option.some.inj hi).symm⟩
    refine ⟨_, rfl, _, _, rfl, rfl, .inr ⟨by decide, by decide⟩, _, rfl, _, _, rfl, rfl, .inl ⟨_, rfl, _, _, rfl, rfl, (by show (0 : Int) < 1000000007; decide), ?_⟩⟩
    have h2 := Int.emod_nonneg (f * 47 + z) (show (1000000007 : Int) ≠ 0 by decide)
    have h3 := Int.emod_lt_of_pos (f * 47 + z) (show (0 : Int) < 1000000007 by decide)
    exact ⟨_, _, rfl, rfl, h2, by omega⟩
  · rintro σ H1 ⟨f, v, rfl, rfl, h0, h1⟩
    intro p hp
    have hS2 : SqL K (upd H1 p (.dK [])) a (ns.map V.int) := (Same.new hp).seq hS
    refine ⟨_, rfl, a, _, rfl, .inl hS2, fun l hl2 => ?_⟩
    refine ⟨_, rfl, ?_⟩
    have npl : p ≠ l := ne_of_none upd_same hl2
    refine ⟨by rw [upd_ne npl, upd_same], [(.inr "cells", .ref l), (.inr "at", .int 0), (.inr "digits", .int 0), (.inr "count", .int 0), (.inr "fold", .int f)], rfl, (by show 5 ≤ 15; decide), ?_⟩
    rw [pen_made]
    refine k p _ ⟨l, ns, 0, 0, 0, f, upd_same, by rw [upd_ne npl.symm, upd_same], hl, by decide, by decide, h0, h1⟩ hp fun b o e => ?_
    rw [upd_ne (ne_of_none e hp), upd_ne (fun z => ?_), upd_ne (ne_of_none e hp)]
    · exact e
    · subst z
      rw [upd_ne npl.symm] at hl2
      rw [hl2] at e
      cases e
end
end K00
namespace K00
open PySem PySem.Spec PyProof.Rows L2 Tc
section
variable {P : Program} {w : World} {K : PySem.W.Frag} {mg : Str → Option Value} {base : Heap}
theorem c_law_draw (T : TX K mg) : Callee P w K mg base CX0 1 "_law_draw" ["pen", "many"] spDraw := by
  obtain ⟨fd, F⟩ := F_law_draw T
  refine callee_mk F (g_law_draw T) (fun _ _ _ _ _ _ us hl => match us, hl with | [_, _], _ => rfl) ?_
  refine F.ok sc_law_draw (fun vs H Q E h => by obtain ⟨p, m, rfl, _⟩ := h; rfl) fun cdv A outer s H vs Q E hr h => ?_
  obtain ⟨p, m, rfl, ⟨c, ns, a, d, n, f, hp, hc, hl, ha, hd, hf, hf2⟩, hm, hm2, k⟩ := h
  have hu := hu_of hr
  have npc : p ≠ c := ne_of hp hc (by intro z; cases z)
  refine ⟨_, pss_cons (ps_dput hu (pv 0) pe_str (pe_op op_add (pe_dget hu (pv 0) pe_str (fun _ _ => rfl)) pe_int) rfl)
    (C8.pss_cut (ps_if (pw_and (pt_cmpR op_eq (pe_dget hu (pv 0) pe_str (fun _ _ => rfl)) pe_int (nomark _)) (pw_and1 (pt_cmpR op_lt (pe_dget hu (pv 0) pe_str (fun _ _ => rfl)) (pe_callB call_len_seq (by rfl) (g_len T) PySem.boot_len (pa_cons (pe_dget hu (pv 0) pe_str (fun _ _ => rfl)) pa_nil)) (nomark _)))).pt
        (pss_cons (ps_set (i := 2) sc_law_draw.nd rfl (Or.inl rfl) (pe_ix ix_list (pe_dget hu (pv 0) pe_str (fun _ _ => rfl)) (pe_dget hu (pv 0) pe_str (fun _ _ => rfl)) (fun _ _ => rfl)))
        (pss_cons (ps_dput hu (pv 0) pe_str (pe_op op_add (pe_dget hu (pv 0) pe_str (fun _ _ => rfl)) pe_int) rfl)
        (pss_one (ps_if (pt_cmpR op_ge (pv 2) (pe_op op_pow pe_int pe_int) (nomark _))
          (pss_one (ps_dput hu (pv 0) pe_str (pe_op op_sub (pv 2) (pe_op op_pow pe_int pe_int)) rfl))
          (pss_one (ps_dput hu (pv 0) pe_str (pe_op op_mod (pe_callTy call_int1 (by rfl) (g_int T) PyProof.Rows.boot_int (pa_cons (pe_op op_add (pe_op op_mul (pe_dget hu (pv 0) pe_str (fun _ _ => rfl)) pe_int) (pv 2)) pa_nil)) pe_int) rfl))))))
        pss_nil)
    (pss_cons (ps_if (pt_cmpR op_gt (pe_dget hu (pv 0) pe_str (fun _ _ => rfl)) pe_int (nomark _))
        (pss_cons (ps_set (i := 3) sc_law_draw.nd rfl (Or.inl rfl) (pe_op op_mod (pe_callTy call_int1 (by rfl) (g_int T) PyProof.Rows.boot_int (pa_cons (pe_dget hu (pv 0) pe_str (fun _ _ => rfl)) pa_nil)) (pv 1)))
        (pss_cons (ps_dput hu (pv 0) pe_str (pe_op op_fdiv (pe_dget hu (pv 0) pe_str (fun _ _ => rfl)) (pv 1)) rfl)
        (pss_one (ps_ret (pv 3)))))
        pss_nil)
    (pss_cons (ps_set (i := 4) sc_law_draw.nd rfl (Or.inl rfl) (pe_op op_mod (pe_callTy call_int1 (by rfl) (g_int T) PyProof.Rows.boot_int (pa_cons (pe_op op_add (pe_op op_add (pe_op op_mul (pe_dget hu (pv 0) pe_str (fun _ _ => rfl)) pe_int) (pe_op op_mul (pe_dget hu (pv 0) pe_str (fun _ _ => rfl)) pe_int)) pe_int) pa_nil)) pe_int))
    (pss_cons (ps_set (i := 4) sc_law_draw.nd rfl (Or.inl rfl) (pe_op op_mod (pe_callTy call_int1 (by rfl) (g_int T) PyProof.Rows.boot_int (pa_cons (pe_op op_add (pe_op op_add (pe_op op_mul (pv 4) (pv 4)) (pe_op op_mul pe_int (pv 4))) (pe_dget hu (pv 0) pe_str (fun _ _ => rfl))) pa_nil)) pe_int))
    (pss_cons (ps_dput hu (pv 0) pe_str (pe_op op_mod (pe_callTy call_int1 (by rfl) (g_int T) PyProof.Rows.boot_int (pa_cons (pe_op op_add (pe_op op_mul (pv 4) pe_int) pe_int) pa_nil)) pe_int) rfl)
    (pss_one (ps_ret (pe_op op_mod (pe_callTy call_int1 (by rfl) (g_int T) PyProof.Rows.boot_int (pa_cons (pe_op op_fdiv (pv 4) pe_int) pa_nil)) (pv 1))))))))), ?_⟩
  -- pen["count"] = pen["count"] + 1
  refine rd_pen (i := 0) rfl hp pen_count ⟨_, _, rfl, rfl, wr_pen (i := 0) rfl hp penL_len ?_⟩
  rw [put_count]
  have hp1 : upd H p (.dK (penL c a d (n + 1) f)) p = some (.dK (penL c a d (n + 1) f)) := upd_same
  have hc1 : upd H p (.dK (penL c a d (n + 1) f)) c = some (.lst (ns.map V.int)) := by rw [upd_ne npc.symm]; exact hc
  have b1 : But p H (upd H p (.dK (penL c a d (n + 1) f))) := But.set
  generalize upd H p (.dK (penL c a d (n + 1) f)) = H1 at hp1 hc1 b1 ⊢
  refine ⟨fun σ H2 => ∃ (v : Option V) (a' d' f' : Int), σ = [some (.ref p), some (.int m), v, none, none] ∧ H2 p = some (.dK (penL c a' d' (n + 1) f')) ∧ H2 c = some (.lst (ns.map V.int)) ∧ But p H H2 ∧ 0 ≤ a' ∧ 0 ≤ d' ∧ 0 ≤ f' ∧ f' < 2147483648, ?_, ?_⟩
  · -- the next cell
    refine rd_pen (i := 0) rfl hp1 pen_digits ⟨rfl, _, rfl, ?_⟩
    refine ite2 (fun _ => ?_) (fun _ => iteF ⟨none, a, d, f, rfl, hp1, hc1, b1, ha, hd, hf, hf2⟩)
    refine rd_pen (i := 0) rfl hp1 pen_at (rd_pen (i := 0) rfl hp1 pen_cells ⟨c, _, rfl, .inl (SqL.of hc1), _, _, rfl, rfl, _, rfl, ?_⟩)
    refine ite2 (fun ht => ?_) (fun _ => ⟨none, a, d, f, rfl, hp1, hc1, b1, ha, hd, hf, hf2⟩)
    have hlt : a < ((ns.map V.int).length : Int) := of_decide_eq_true ht
    rw [List.length_map] at hlt
    obtain ⟨z, hz⟩ : ∃ z, ns[a.toNat]? = some z := ⟨_, List.getElem?_eq_getElem (by omega : a.toNat < ns.length)⟩
    have hat : atI (ns.map V.int) a = some (.int z) := at_of (j := a.toNat) (by omega) (by rw [List.getElem?_map, hz]; rfl)
    refine rd_pen (i := 0) rfl hp1 pen_cells (rd_pen (i := 0) rfl hp1 pen_at ⟨c, _, a, _, rfl, rfl, SqL.of hc1, hat, ?_⟩)
    refine rd_pen (i := 0) rfl hp1 pen_at ⟨_, _, rfl, rfl, wr_pen (i := 0) rfl hp1 penL_len ?_⟩
    rw [put_at]
    have hp2 : upd H1 p (.dK (penL c (a + 1) d (n + 1) f)) p = some (.dK (penL c (a + 1) d (n + 1) f)) := upd_same
    have hc2 : upd H1 p (.dK (penL c (a + 1) d (n + 1) f)) c = some (.lst (ns.map V.int)) := by rw [upd_ne npc.symm]; exact hc1
    have b2 : But p H (upd H1 p (.dK (penL c (a + 1) d (n + 1) f))) := b1.trans But.set
    generalize upd H1 p (.dK (penL c (a + 1) d (n + 1) f)) = H2 at hp2 hc2 b2 ⊢
    refine ⟨_, rfl, _, _, rfl, rfl, ⟨by decide, by decide, by decide⟩, _, _, rfl, rfl, _, rfl, ?_⟩
    refine ite2 (fun hg => ?_) (fun _ => ?_)
    · have hg' : ((10 : Int) ^ (18 : Int).toNat) ≤ z := of_decide_eq_true hg
      refine ⟨_, rfl, _, _, rfl, rfl, ⟨by decide, by decide, by decide⟩, _, _, rfl, rfl, wr_pen (i := 0) rfl hp2 penL_len ?_⟩
      rw [put_digits]
      exact ⟨_, _, _, _, rfl, upd_same, by rw [upd_ne npc.symm]; exact hc2, b2.trans But.set, by omega, by omega, hf, hf2⟩
    · refine rd_pen (i := 0) rfl hp2 pen_fold ⟨_, _, rfl, rfl, .inr ⟨by decide, by decide⟩, _, rfl, _, _, rfl, rfl, .inl ⟨_, rfl, _, _, rfl, rfl, (by show (0 : Int) < 2147483587; decide), wr_pen (i := 0) rfl hp2 penL_len ?_⟩⟩
      rw [put_fold]
      have h2 := Int.emod_nonneg (f * 69069 + z) (show (2147483587 : Int) ≠ 0 by decide)
      have h3 := Int.emod_lt_of_pos (f * 69069 + z) (show (0 : Int) < 2147483587 by decide)
      exact ⟨_, _, _, _, rfl, upd_same, by rw [upd_ne npc.symm]; exact hc2, b2.trans But.set, by omega, hd, h2, by omega⟩
  · rintro σ H2 ⟨v, a', d', f', rfl, hp2, hc2, b2, ha', hd', hf', hf2'⟩
    refine rd_pen (i := 0) rfl hp2 pen_digits ⟨_, _, rfl, rfl, _, rfl, ?_⟩
    refine ite2 (fun hg => ?_) (fun _ => ?_)
    · -- a digit of the cell
      refine rd_pen (i := 0) rfl hp2 pen_digits (.inl ⟨_, rfl, _, rfl, _, _, rfl, rfl, hm, ?_⟩)
      refine rd_pen (i := 0) rfl hp2 pen_digits ⟨_, rfl, _, _, rfl, rfl, ⟨hm, hm2⟩, wr_pen (i := 0) rfl hp2 penL_len ?_⟩
      rw [put_digits]
      refine ⟨_, rfl, ?_⟩
      exact k _ _ (Int.emod_nonneg _ (by omega)) (Int.emod_lt_of_pos _ hm) ⟨c, ns, a', _, _, f', upd_same, by rw [upd_ne npc.symm]; exact hc2, hl, ha', Int.ediv_nonneg hd' (by omega), hf', hf2'⟩ (b2.trans But.set)
    · -- mixed
      refine rd_pen (i := 0) rfl hp2 pen_fold ⟨_, _, rfl, rfl, .inr ⟨by decide, by decide⟩, rd_pen (i := 0) rfl hp2 pen_count ⟨_, _, rfl, rfl, .inr ⟨by decide, by decide⟩, _, _, rfl, rfl, _, _, rfl, rfl, .inl ⟨_, rfl, _, _, rfl, rfl, (by show (0 : Int) < 2147483647; decide), ?_⟩⟩⟩
      have q1 := fold_ok (f' * 48271 + (n + 1) * 7919 + 13)
      generalize (f' * 48271 + (n + 1) * 7919 + 13) % 2147483647 = b at q1 ⊢
      refine ⟨_, rfl, _, rfl, _, _, rfl, rfl, .inl ⟨by omega, by omega⟩, _, rfl, _, _, rfl, rfl, .inl ⟨by decide, by decide⟩, _, _, rfl, rfl, rd_pen (i := 0) rfl hp2 pen_count ⟨_, _, rfl, rfl, .inl ⟨_, rfl, _, _, rfl, rfl, (by show (0 : Int) < 2147483629; decide), ?_⟩⟩⟩
      have q2 := Int.emod_nonneg (b * b + 31 * b + (n + 1)) (show (2147483629 : Int) ≠ 0 by decide)
      have q3 := Int.emod_lt_of_pos (b * b + 31 * b + (n + 1)) (show (0 : Int) < 2147483629 by decide)
      generalize (b * b + 31 * b + (n + 1)) % 2147483629 = b2' at q2 q3 ⊢
      refine ⟨_, rfl, _, _, rfl, rfl, .inr ⟨by decide, by decide⟩, _, _, rfl, rfl, .inl ⟨_, rfl, _, _, rfl, rfl, (by show (0 : Int) < 2147483647; decide), wr_pen (i := 0) rfl hp2 penL_len ?_⟩⟩
      rw [put_fold]
      refine ⟨_, rfl, _, _, rfl, rfl, ⟨by decide, by decide⟩, .inl ⟨_, rfl, _, rfl, _, _, rfl, rfl, hm, ?_⟩⟩
      exact k _ _ (Int.emod_nonneg _ (by omega)) (Int.emod_lt_of_pos _ hm) ⟨c, ns, a', d', _, _, upd_same, by rw [upd_ne npc.symm]; exact hc2, hl, ha', hd', (fold_ok _).1, (fold_ok _).2⟩ (b2.trans But.set)
end
end K00
namespace K00
open PySem PySem.Spec PyProof.Rows L2 Tc
section
variable {P : Program} {w : World} {K : PySem.W.Frag} {mg : Str → Option Value} {base : Heap}
theorem c_law_pick (T : TX K mg) : Callee P w K mg base CX0 2 "_law_pick" ["pen", "some"] (spPick K) := by
  obtain ⟨fd, F⟩ := F_law_pick T
  refine callee_mk F (g_law_pick T) (fun _ _ _ _ _ _ us hl => match us, hl with | [_, _], _ => rfl) ?_
  refine F.ok sc_law_pick (fun vs H Q E h => by obtain ⟨p, l, xs, rfl, _⟩ := h; rfl) fun cdv A outer s H vs Q E hr h => ?_
  obtain ⟨p, l, xs, rfl, nl, hp, hl, h0, h1, k⟩ := h
  refine ⟨_, pss_one (ps_ret (pe_ix ix_seq (pv 1) (pe_f (c_law_draw T) hr (pa_cons (pv 0) (pa_cons (pe_callB call_len_seq (by rfl) (g_len T) PySem.boot_len (pa_cons (pv 1) pa_nil)) pa_nil))) (fun _ _ => rfl))), ?_⟩
  refine ⟨_, rfl, _, rfl, _, rfl, l, xs, rfl, hl, p, (xs.length : Int), rfl, hp, by omega, by omega, fun r H' h2 h3 hp' b => ?_⟩
  obtain ⟨x, hx⟩ : ∃ x, xs[r.toNat]? = some x := ⟨_, List.getElem?_eq_getElem (by omega : r.toNat < xs.length)⟩
  have hat : atI xs r = some x := at_of (j := r.toNat) (by omega) hx
  rcases hl with hl | hl
  · exact .inl ⟨l, xs, r, x, rfl, rfl, b.seq nl hl, hat, k _ _ _ hx hp' b⟩
  · exact .inr (.inl ⟨l, xs, r, x, rfl, rfl, b.tup nl hl, hat, k _ _ _ hx hp' b⟩)
end
end K00
namespace K00
open PySem PySem.Spec PyProof.Rows L2 Tc
section
variable {P : Program} {w : World} {K : PySem.W.Frag} {mg : Str → Option Value} {base : Heap}
theorem i_BadText (T : TX K mg) : InitAt P w K mg base "BadText" ["self", "line", "word"] (spInit K (He.ga K "BadText") 2 fun xs => [("word", xs.getD 1 .non), ("line", xs.getD 0 .non)]) := by
  obtain ⟨fd, F⟩ := F_BadText_init T
  obtain ⟨ec, ei, et⟩ := T.each _ (List.mem_of_getElem? (i := 0) rfl)
  refine ⟨⟨fd, ?_, F.binds (ps := ["self", "line", "word"]) (fun _ _ _ _ _ _ us hl => match us, hl with | [_, _, _], _ => rfl)⟩, ec.oex, ei, et, g_BadText T⟩
  refine F.ok sc_BadText_init (fun vs H Q E h => by obtain ⟨a, xs, rfl, hl, _⟩ := h; exact congrArg Nat.succ hl) fun cdv A outer s H vs Q E hr h => ?_
  obtain ⟨a, xs, rfl, hl, ea, oe, k⟩ := h
  match xs, hl with
  | [x0, x1], _ =>
  refine ⟨_, pss_cons (ps_expr (pe_basei (by rfl) (g_TreeError T) T.base (pa_cons (pv 0) (pa_cons pe_str pa_nil)))) (pss_cons (ps_ost (pv 0) (pv 1)) (pss_cons (ps_ost (pv 0) (pv 2)) (pss_nil))), ?_⟩
  refine ⟨_, rfl, a, _, [_], rfl, by decide, oe, ea, ?_⟩
  refine ⟨_, rfl, _, rfl, a, _, rfl, oe, ec.none_ "line" (by simp), .inl ⟨ea, fun d nd nda => ?_⟩⟩
  have b1 : But a H (upd (upd H d (exd d [("line", x0)])) a (exo a (He.ga K "BadText") (some d))) := (But.new nd).trans But.set
  have e1 : upd (upd H d (exd d [("line", x0)])) a (exo a (He.ga K "BadText") (some d)) a = some (exo a (He.ga K "BadText") (some d)) := upd_same
  have e2 : upd (upd H d (exd d [("line", x0)])) a (exo a (He.ga K "BadText") (some d)) d = some (exd d [("line", x0)]) := by rw [upd_ne nda, upd_same]
  generalize upd (upd H d (exd d [("line", x0)])) a (exo a (He.ga K "BadText") (some d)) = H1 at b1 e1 e2 ⊢
  refine ⟨_, rfl, _, rfl, a, _, rfl, oe, ec.none_ "word" (by simp), .inr ⟨d, _, e1, e2, by simp, ?_⟩⟩
  have b2 : But a H (upd H1 d (exd d [("word", x1), ("line", x0)])) := fun b o nb eb => by rw [upd_ne (ne_of_none eb nd)]; exact b1 b o nb eb
  replace e1 : upd H1 d (exd d [("word", x1), ("line", x0)]) a = some (exo a (He.ga K "BadText") (some d)) := by rw [upd_ne nda.symm]; exact e1
  replace e2 : upd H1 d (exd d [("word", x1), ("line", x0)]) d = some (exd d [("word", x1), ("line", x0)]) := upd_same
  generalize upd H1 d (exd d [("word", x1), ("line", x0)]) = H2 at b2 e1 e2 ⊢
  exact k d _ nd e1 e2 b2
theorem i_BadName (T : TX K mg) : InitAt P w K mg base "BadName" ["self", "name"] (spInit K (He.ga K "BadName") 1 fun xs => [("name", xs.getD 0 .non)]) := by
  obtain ⟨fd, F⟩ := F_BadName_init T
  obtain ⟨ec, ei, et⟩ := T.each _ (List.mem_of_getElem? (i := 1) rfl)
  refine ⟨⟨fd, ?_, F.binds (ps := ["self", "name"]) (fun _ _ _ _ _ _ us hl => match us, hl with | [_, _], _ => rfl)⟩, ec.oex, ei, et, g_BadName T⟩
  refine F.ok sc_BadName_init (fun vs H Q E h => by obtain ⟨a, xs, rfl, hl, _⟩ := h; exact congrArg Nat.succ hl) fun cdv A outer s H vs Q E hr h => ?_
  obtain ⟨a, xs, rfl, hl, ea, oe, k⟩ := h
  match xs, hl with
  | [x0], _ =>
  refine ⟨_, pss_cons (ps_expr (pe_basei (by rfl) (g_TreeError T) T.base (pa_cons (pv 0) (pa_cons pe_str pa_nil)))) (pss_cons (ps_ost (pv 0) (pv 1)) (pss_nil)), ?_⟩
  refine ⟨_, rfl, a, _, [_], rfl, by decide, oe, ea, ?_⟩
  refine ⟨_, rfl, _, rfl, a, _, rfl, oe, ec.none_ "name" (by simp), .inl ⟨ea, fun d nd nda => ?_⟩⟩
  have b1 : But a H (upd (upd H d (exd d [("name", x0)])) a (exo a (He.ga K "BadName") (some d))) := (But.new nd).trans But.set
  have e1 : upd (upd H d (exd d [("name", x0)])) a (exo a (He.ga K "BadName") (some d)) a = some (exo a (He.ga K "BadName") (some d)) := upd_same
  have e2 : upd (upd H d (exd d [("name", x0)])) a (exo a (He.ga K "BadName") (some d)) d = some (exd d [("name", x0)]) := by rw [upd_ne nda, upd_same]
  generalize upd (upd H d (exd d [("name", x0)])) a (exo a (He.ga K "BadName") (some d)) = H1 at b1 e1 e2 ⊢
  exact k d _ nd e1 e2 b1
theorem i_BadNumber (T : TX K mg) : InitAt P w K mg base "BadNumber" ["self", "what", "number"] (spInit K (He.ga K "BadNumber") 2 fun xs => [("number", xs.getD 1 .non), ("what", xs.getD 0 .non)]) := by
  obtain ⟨fd, F⟩ := F_BadNumber_init T
  obtain ⟨ec, ei, et⟩ := T.each _ (List.mem_of_getElem? (i := 2) rfl)
  refine ⟨⟨fd, ?_, F.binds (ps := ["self", "what", "number"]) (fun _ _ _ _ _ _ us hl => match us, hl with | [_, _, _], _ => rfl)⟩, ec.oex, ei, et, g_BadNumber T⟩
  refine F.ok sc_BadNumber_init (fun vs H Q E h => by obtain ⟨a, xs, rfl, hl, _⟩ := h; exact congrArg Nat.succ hl) fun cdv A outer s H vs Q E hr h => ?_
  obtain ⟨a, xs, rfl, hl, ea, oe, k⟩ := h
  match xs, hl with
  | [x0, x1], _ =>
  refine ⟨_, pss_cons (ps_expr (pe_basei (by rfl) (g_TreeError T) T.base (pa_cons (pv 0) (pa_cons pe_str pa_nil)))) (pss_cons (ps_ost (pv 0) (pv 1)) (pss_cons (ps_ost (pv 0) (pv 2)) (pss_nil))), ?_⟩
  refine ⟨_, rfl, a, _, [_], rfl, by decide, oe, ea, ?_⟩
  refine ⟨_, rfl, _, rfl, a, _, rfl, oe, ec.none_ "what" (by simp), .inl ⟨ea, fun d nd nda => ?_⟩⟩
  have b1 : But a H (upd (upd H d (exd d [("what", x0)])) a (exo a (He.ga K "BadNumber") (some d))) := (But.new nd).trans But.set
  have e1 : upd (upd H d (exd d [("what", x0)])) a (exo a (He.ga K "BadNumber") (some d)) a = some (exo a (He.ga K "BadNumber") (some d)) := upd_same
  have e2 : upd (upd H d (exd d [("what", x0)])) a (exo a (He.ga K "BadNumber") (some d)) d = some (exd d [("what", x0)]) := by rw [upd_ne nda, upd_same]
  generalize upd (upd H d (exd d [("what", x0)])) a (exo a (He.ga K "BadNumber") (some d)) = H1 at b1 e1 e2 ⊢
  refine ⟨_, rfl, _, rfl, a, _, rfl, oe, ec.none_ "number" (by simp), .inr ⟨d, _, e1, e2, by simp, ?_⟩⟩
  have b2 : But a H (upd H1 d (exd d [("number", x1), ("what", x0)])) := fun b o nb eb => by rw [upd_ne (ne_of_none eb nd)]; exact b1 b o nb eb
  replace e1 : upd H1 d (exd d [("number", x1), ("what", x0)]) a = some (exo a (He.ga K "BadNumber") (some d)) := by rw [upd_ne nda.symm]; exact e1
  replace e2 : upd H1 d (exd d [("number", x1), ("what", x0)]) d = some (exd d [("number", x1), ("what", x0)]) := upd_same
  generalize upd H1 d (exd d [("number", x1), ("what", x0)]) = H2 at b2 e1 e2 ⊢
  exact k d _ nd e1 e2 b2
theorem i_BadRow (T : TX K mg) : InitAt P w K mg base "BadRow" ["self", "what", "row"] (spInit K (He.ga K "BadRow") 2 fun xs => [("row", xs.getD 1 .non), ("what", xs.getD 0 .non)]) := by
  obtain ⟨fd, F⟩ := F_BadRow_init T
  obtain ⟨ec, ei, et⟩ := T.each _ (List.mem_of_getElem? (i := 3) rfl)
  refine ⟨⟨fd, ?_, F.binds (ps := ["self", "what", "row"]) (fun _ _ _ _ _ _ us hl => match us, hl with | [_, _, _], _ => rfl)⟩, ec.oex, ei, et, g_BadRow T⟩
  refine F.ok sc_BadRow_init (fun vs H Q E h => by obtain ⟨a, xs, rfl, hl, _⟩ := h; exact congrArg Nat.succ hl) fun cdv A outer s H vs Q E hr h => ?_
  obtain ⟨a, xs, rfl, hl, ea, oe, k⟩ := h
  match xs, hl with
  | [x0, x1], _ =>
  refine ⟨_, pss_cons (ps_expr (pe_basei (by rfl) (g_TreeError T) T.base (pa_cons (pv 0) (pa_cons pe_str pa_nil)))) (pss_cons (ps_ost (pv 0) (pv 1)) (pss_cons (ps_ost (pv 0) (pv 2)) (pss_nil))), ?_⟩
  refine ⟨_, rfl, a, _, [_], rfl, by decide, oe, ea, ?_⟩
  refine ⟨_, rfl, _, rfl, a, _, rfl, oe, ec.none_ "what" (by simp), .inl ⟨ea, fun d nd nda => ?_⟩⟩
  have b1 : But a H (upd (upd H d (exd d [("what", x0)])) a (exo a (He.ga K "BadRow") (some d))) := (But.new nd).trans But.set
  have e1 : upd (upd H d (exd d [("what", x0)])) a (exo a (He.ga K "BadRow") (some d)) a = some (exo a (He.ga K "BadRow") (some d)) := upd_same
  have e2 : upd (upd H d (exd d [("what", x0)])) a (exo a (He.ga K "BadRow") (some d)) d = some (exd d [("what", x0)]) := by rw [upd_ne nda, upd_same]
  generalize upd (upd H d (exd d [("what", x0)])) a (exo a (He.ga K "BadRow") (some d)) = H1 at b1 e1 e2 ⊢
  refine ⟨_, rfl, _, rfl, a, _, rfl, oe, ec.none_ "row" (by simp), .inr ⟨d, _, e1, e2, by simp, ?_⟩⟩
  have b2 : But a H (upd H1 d (exd d [("row", x1), ("what", x0)])) := fun b o nb eb => by rw [upd_ne (ne_of_none eb nd)]; exact b1 b o nb eb
  replace e1 : upd H1 d (exd d [("row", x1), ("what", x0)]) a = some (exo a (He.ga K "BadRow") (some d)) := by rw [upd_ne nda.symm]; exact e1
  replace e2 : upd H1 d (exd d [("row", x1), ("what", x0)]) d = some (exd d [("row", x1), ("what", x0)]) := upd_same
  generalize upd H1 d (exd d [("row", x1), ("what", x0)]) = H2 at b2 e1 e2 ⊢
  exact k d _ nd e1 e2 b2
theorem i_NoName (T : TX K mg) : InitAt P w K mg base "NoName" ["self", "name"] (spInit K (He.ga K "NoName") 1 fun xs => [("name", xs.getD 0 .non)]) := by
  obtain ⟨fd, F⟩ := F_NoName_init T
  obtain ⟨ec, ei, et⟩ := T.each _ (List.mem_of_getElem? (i := 4) rfl)
  refine ⟨⟨fd, ?_, F.binds (ps := ["self", "name"]) (fun _ _ _ _ _ _ us hl => match us, hl with | [_, _], _ => rfl)⟩, ec.oex, ei, et, g_NoName T⟩
  refine F.ok sc_NoName_init (fun vs H Q E h => by obtain ⟨a, xs, rfl, hl, _⟩ := h; exact congrArg Nat.succ hl) fun cdv A outer s H vs Q E hr h => ?_
  obtain ⟨a, xs, rfl, hl, ea, oe, k⟩ := h
  match xs, hl with
  | [x0], _ =>
  refine ⟨_, pss_cons (ps_expr (pe_basei (by rfl) (g_TreeError T) T.base (pa_cons (pv 0) (pa_cons pe_str pa_nil)))) (pss_cons (ps_ost (pv 0) (pv 1)) (pss_nil)), ?_⟩
  refine ⟨_, rfl, a, _, [_], rfl, by decide, oe, ea, ?_⟩
  refine ⟨_, rfl, _, rfl, a, _, rfl, oe, ec.none_ "name" (by simp), .inl ⟨ea, fun d nd nda => ?_⟩⟩
  have b1 : But a H (upd (upd H d (exd d [("name", x0)])) a (exo a (He.ga K "NoName") (some d))) := (But.new nd).trans But.set
  have e1 : upd (upd H d (exd d [("name", x0)])) a (exo a (He.ga K "NoName") (some d)) a = some (exo a (He.ga K "NoName") (some d)) := upd_same
  have e2 : upd (upd H d (exd d [("name", x0)])) a (exo a (He.ga K "NoName") (some d)) d = some (exd d [("name", x0)]) := by rw [upd_ne nda, upd_same]
  generalize upd (upd H d (exd d [("name", x0)])) a (exo a (He.ga K "NoName") (some d)) = H1 at b1 e1 e2 ⊢
  exact k d _ nd e1 e2 b1
theorem i_TakenName (T : TX K mg) : InitAt P w K mg base "TakenName" ["self", "name"] (spInit K (He.ga K "TakenName") 1 fun xs => [("name", xs.getD 0 .non)]) := by
  obtain ⟨fd, F⟩ := F_TakenName_init T
  obtain ⟨ec, ei, et⟩ := T.each _ (List.mem_of_getElem? (i := 5) rfl)
  refine ⟨⟨fd, ?_, F.binds (ps := ["self", "name"]) (fun _ _ _ _ _ _ us hl => match us, hl with | [_, _], _ => rfl)⟩, ec.oex, ei, et, g_TakenName T⟩
  refine F.ok sc_TakenName_init (fun vs H Q E h => by obtain ⟨a, xs, rfl, hl, _⟩ := h; exact congrArg Nat.succ hl) fun cdv A outer s H vs Q E hr h => ?_
  obtain ⟨a, xs, rfl, hl, ea, oe, k⟩ := h
  match xs, hl with
  | [x0], _ =>
  refine ⟨_, pss_cons (ps_expr (pe_basei (by rfl) (g_TreeError T) T.base (pa_cons (pv 0) (pa_cons pe_str pa_nil)))) (pss_cons (ps_ost (pv 0) (pv 1)) (pss_nil)), ?_⟩
  refine ⟨_, rfl, a, _, [_], rfl, by decide, oe, ea, ?_⟩
  refine ⟨_, rfl, _, rfl, a, _, rfl, oe, ec.none_ "name" (by simp), .inl ⟨ea, fun d nd nda => ?_⟩⟩
  have b1 : But a H (upd (upd H d (exd d [("name", x0)])) a (exo a (He.ga K "TakenName") (some d))) := (But.new nd).trans But.set
  have e1 : upd (upd H d (exd d [("name", x0)])) a (exo a (He.ga K "TakenName") (some d)) a = some (exo a (He.ga K "TakenName") (some d)) := upd_same
  have e2 : upd (upd H d (exd d [("name", x0)])) a (exo a (He.ga K "TakenName") (some d)) d = some (exd d [("name", x0)]) := by rw [upd_ne nda, upd_same]
  generalize upd (upd H d (exd d [("name", x0)])) a (exo a (He.ga K "TakenName") (some d)) = H1 at b1 e1 e2 ⊢
  exact k d _ nd e1 e2 b1
theorem i_Unlike (T : TX K mg) : InitAt P w K mg base "Unlike" ["self", "what"] (spInit K (He.ga K "Unlike") 1 fun xs => [("what", xs.getD 0 .non)]) := by
  obtain ⟨fd, F⟩ := F_Unlike_init T
  obtain ⟨ec, ei, et⟩ := T.each _ (List.mem_of_getElem? (i := 6) rfl)
  refine ⟨⟨fd, ?_, F.binds (ps := ["self", "what"]) (fun _ _ _ _ _ _ us hl => match us, hl with | [_, _], _ => rfl)⟩, ec.oex, ei, et, g_Unlike T⟩
  refine F.ok sc_Unlike_init (fun vs H Q E h => by obtain ⟨a, xs, rfl, hl, _⟩ := h; exact congrArg Nat.succ hl) fun cdv A outer s H vs Q E hr h => ?_
  obtain ⟨a, xs, rfl, hl, ea, oe, k⟩ := h
  match xs, hl with
  | [x0], _ =>
  refine ⟨_, pss_cons (ps_expr (pe_basei (by rfl) (g_TreeError T) T.base (pa_cons (pv 0) (pa_cons pe_str pa_nil)))) (pss_cons (ps_ost (pv 0) (pv 1)) (pss_nil)), ?_⟩
  refine ⟨_, rfl, a, _, [_], rfl, by decide, oe, ea, ?_⟩
  refine ⟨_, rfl, _, rfl, a, _, rfl, oe, ec.none_ "what" (by simp), .inl ⟨ea, fun d nd nda => ?_⟩⟩
  have b1 : But a H (upd (upd H d (exd d [("what", x0)])) a (exo a (He.ga K "Unlike") (some d))) := (But.new nd).trans But.set
  have e1 : upd (upd H d (exd d [("what", x0)])) a (exo a (He.ga K "Unlike") (some d)) a = some (exo a (He.ga K "Unlike") (some d)) := upd_same
  have e2 : upd (upd H d (exd d [("what", x0)])) a (exo a (He.ga K "Unlike") (some d)) d = some (exd d [("what", x0)]) := by rw [upd_ne nda, upd_same]
  generalize upd (upd H d (exd d [("what", x0)])) a (exo a (He.ga K "Unlike") (some d)) = H1 at b1 e1 e2 ⊢
  exact k d _ nd e1 e2 b1
theorem i_TooMany (T : TX K mg) : InitAt P w K mg base "TooMany" ["self", "what", "many", "limit"] (spInit K (He.ga K "TooMany") 3 fun xs => [("limit", xs.getD 2 .non), ("many", xs.getD 1 .non), ("what", xs.getD 0 .non)]) := by
  obtain ⟨fd, F⟩ := F_TooMany_init T
  obtain ⟨ec, ei, et⟩ := T.each _ (List.mem_of_getElem? (i := 7) rfl)
  refine ⟨⟨fd, ?_, F.binds (ps := ["self", "what", "many", "limit"]) (fun _ _ _ _ _ _ us hl => match us, hl with | [_, _, _, _], _ => rfl)⟩, ec.oex, ei, et, g_TooMany T⟩
  refine F.ok sc_TooMany_init (fun vs H Q E h => by obtain ⟨a, xs, rfl, hl, _⟩ := h; exact congrArg Nat.succ hl) fun cdv A outer s H vs Q E hr h => ?_
  obtain ⟨a, xs, rfl, hl, ea, oe, k⟩ := h
  match xs, hl with
  | [x0, x1, x2], _ =>
  refine ⟨_, pss_cons (ps_expr (pe_basei (by rfl) (g_TreeError T) T.base (pa_cons (pv 0) (pa_cons pe_str pa_nil)))) (pss_cons (ps_ost (pv 0) (pv 1)) (pss_cons (ps_ost (pv 0) (pv 2)) (pss_cons (ps_ost (pv 0) (pv 3)) (pss_nil)))), ?_⟩
  refine ⟨_, rfl, a, _, [_], rfl, by decide, oe, ea, ?_⟩
  refine ⟨_, rfl, _, rfl, a, _, rfl, oe, ec.none_ "what" (by simp), .inl ⟨ea, fun d nd nda => ?_⟩⟩
  have b1 : But a H (upd (upd H d (exd d [("what", x0)])) a (exo a (He.ga K "TooMany") (some d))) := (But.new nd).trans But.set
  have e1 : upd (upd H d (exd d [("what", x0)])) a (exo a (He.ga K "TooMany") (some d)) a = some (exo a (He.ga K "TooMany") (some d)) := upd_same
  have e2 : upd (upd H d (exd d [("what", x0)])) a (exo a (He.ga K "TooMany") (some d)) d = some (exd d [("what", x0)]) := by rw [upd_ne nda, upd_same]
  generalize upd (upd H d (exd d [("what", x0)])) a (exo a (He.ga K "TooMany") (some d)) = H1 at b1 e1 e2 ⊢
  refine ⟨_, rfl, _, rfl, a, _, rfl, oe, ec.none_ "many" (by simp), .inr ⟨d, _, e1, e2, by simp, ?_⟩⟩
  have b2 : But a H (upd H1 d (exd d [("many", x1), ("what", x0)])) := fun b o nb eb => by rw [upd_ne (ne_of_none eb nd)]; exact b1 b o nb eb
  replace e1 : upd H1 d (exd d [("many", x1), ("what", x0)]) a = some (exo a (He.ga K "TooMany") (some d)) := by rw [upd_ne nda.symm]; exact e1
  replace e2 : upd H1 d (exd d [("many", x1), ("what", x0)]) d = some (exd d [("many", x1), ("what", x0)]) := upd_same
  generalize upd H1 d (exd d [("many", x1), ("what", x0)]) = H2 at b2 e1 e2 ⊢
  refine ⟨_, rfl, _, rfl, a, _, rfl, oe, ec.none_ "limit" (by simp), .inr ⟨d, _, e1, e2, by simp, ?_⟩⟩
  have b3 : But a H (upd H2 d (exd d [("limit", x2), ("many", x1), ("what", x0)])) := fun b o nb eb => by rw [upd_ne (ne_of_none eb nd)]; exact b2 b o nb eb
  replace e1 : upd H2 d (exd d [("limit", x2), ("many", x1), ("what", x0)]) a = some (exo a (He.ga K "TooMany") (some d)) := by rw [upd_ne nda.symm]; exact e1
  replace e2 : upd H2 d (exd d [("limit", x2), ("many", x1), ("what", x0)]) d = some (exd d [("limit", x2), ("many", x1), ("what", x0)]) := upd_same
  generalize upd H2 d (exd d [("limit", x2), ("many", x1), ("what", x0)]) = H3 at b3 e1 e2 ⊢
  exact k d _ nd e1 e2 b3
theorem i_NotKept (T : TX K mg) : InitAt P w K mg base "NotKept" ["self", "promise", "witness"] (spInit K (He.ga K "NotKept") 2 fun xs => [("witness", xs.getD 1 .non), ("promise", xs.getD 0 .non)]) := by
  obtain ⟨fd, F⟩ := F_NotKept_init T
  obtain ⟨ec, ei, et⟩ := T.each _ (List.mem_of_getElem? (i := 8) rfl)
  refine ⟨⟨fd, ?_, F.binds (ps := ["self", "promise", "witness"]) (fun _ _ _ _ _ _ us hl => match us, hl with | [_, _, _], _ => rfl)⟩, ec.oex, ei, et, g_NotKept T⟩
  refine F.ok sc_NotKept_init (fun vs H Q E h => by obtain ⟨a, xs, rfl, hl, _⟩ := h; exact congrArg Nat.succ hl) fun cdv A outer s H vs Q E hr h => ?_
  obtain ⟨a, xs, rfl, hl, ea, oe, k⟩ := h
  match xs, hl with
  | [x0, x1], _ =>
  refine ⟨_, pss_cons (ps_expr (pe_basei (by rfl) (g_TreeError T) T.base (pa_cons (pv 0) (pa_cons pe_str pa_nil)))) (pss_cons (ps_ost (pv 0) (pv 1)) (pss_cons (ps_ost (pv 0) (pv 2)) (pss_nil))), ?_⟩
  refine ⟨_, rfl, a, _, [_], rfl, by decide, oe, ea, ?_⟩
  refine ⟨_, rfl, _, rfl, a, _, rfl, oe, ec.none_ "promise" (by simp), .inl ⟨ea, fun d nd nda => ?_⟩⟩
  have b1 : But a H (upd (upd H d (exd d [("promise", x0)])) a (exo a (He.ga K "NotKept") (some d))) := (But.new nd).trans But.set
  have e1 : upd (upd H d (exd d [("promise", x0)])) a (exo a (He.ga K "NotKept") (some d)) a = some (exo a (He.ga K "NotKept") (some d)) := upd_same
  have e2 : upd (upd H d (exd d [("promise", x0)])) a (exo a (He.ga K "NotKept") (some d)) d = some (exd d [("promise", x0)]) := by rw [upd_ne nda, upd_same]
  generalize upd (upd H d (exd d [("promise", x0)])) a (exo a (He.ga K "NotKept") (some d)) = H1 at b1 e1 e2 ⊢
  refine ⟨_, rfl, _, rfl, a, _, rfl, oe, ec.none_ "witness" (by simp), .inr ⟨d, _, e1, e2, by simp, ?_⟩⟩
  have b2 : But a H (upd H1 d (exd d [("witness", x1), ("promise", x0)])) := fun b o nb eb => by rw [upd_ne (ne_of_none eb nd)]; exact b1 b o nb eb
  replace e1 : upd H1 d (exd d [("witness", x1), ("promise", x0)]) a = some (exo a (He.ga K "NotKept") (some d)) := by rw [upd_ne nda.symm]; exact e1
  replace e2 : upd H1 d (exd d [("witness", x1), ("promise", x0)]) d = some (exd d [("witness", x1), ("promise", x0)]) := upd_same
  generalize upd H1 d (exd d [("witness", x1), ("promise", x0)]) = H2 at b2 e1 e2 ⊢
  exact k d _ nd e1 e2 b2
theorem i_NothingToUndo (T : TX K mg) : InitAt P w K mg base "NothingToUndo" ["self"] (spInit0 K (He.ga K "NothingToUndo")) := by
  obtain ⟨fd, F⟩ := F_NothingToUndo_init T
  obtain ⟨ec, ei, et⟩ := T.each _ (List.mem_of_getElem? (i := 9) rfl)
  refine ⟨⟨fd, ?_, F.binds (ps := ["self"]) (fun _ _ _ _ _ _ us hl => match us, hl with | [_], _ => rfl)⟩, ec.oex, ei, et, g_NothingToUndo T⟩
  refine F.ok sc_NothingToUndo_init (fun vs H Q E h => by obtain ⟨a, rfl, _⟩ := h; rfl) fun cdv A outer s H vs Q E hr h => ?_
  obtain ⟨a, rfl, ea, oe, k⟩ := h
  exact ⟨_, pss_cons (ps_expr (pe_basei (by rfl) (g_TreeError T) T.base (pa_cons (pv 0) (pa_cons pe_str pa_nil)))) pss_nil, ⟨_, rfl, a, _, [_], rfl, by decide, oe, ea, k⟩⟩
theorem i_NothingToRedo (T : TX K mg) : InitAt P w K mg base "NothingToRedo" ["self"] (spInit0 K (He.ga K "NothingToRedo")) := by
  obtain ⟨fd, F⟩ := F_NothingToRedo_init T
  obtain ⟨ec, ei, et⟩ := T.each _ (List.mem_of_getElem? (i := 10) rfl)
  refine ⟨⟨fd, ?_, F.binds (ps := ["self"]) (fun _ _ _ _ _ _ us hl => match us, hl with | [_], _ => rfl)⟩, ec.oex, ei, et, g_NothingToRedo T⟩
  refine F.ok sc_NothingToRedo_init (fun vs H Q E h => by obtain ⟨a, rfl, _⟩ := h; rfl) fun cdv A outer s H vs Q E hr h => ?_
  obtain ⟨a, rfl, ea, oe, k⟩ := h
  exact ⟨_, pss_cons (ps_expr (pe_basei (by rfl) (g_TreeError T) T.base (pa_cons (pv 0) (pa_cons pe_str pa_nil)))) pss_nil, ⟨_, rfl, a, _, [_], rfl, by decide, oe, ea, k⟩⟩
end
end K00
namespace K00
open PySem PySem.Spec PyProof.Rows L2 Tc
/-! the drawn values -/
def later : V := .str "later"
/-- a drawn value, up to m times "later" behind -/
def flats : List V := [.non, .bl true, .bl false, .int 0, .int (-1), .str "x", .str "", .int (10 ^ 40)]
def ValAt (H : Hp) (m : Nat) (v : V) : Prop := v ∈ flats ∨
  (∃ (a b : Addr) (r : Int) (k : Nat), v = .ref a ∧ H a = some (.lst (.int r :: .ref b :: List.replicate k later)) ∧ H b = some (.lst []) ∧ k ≤ m ∧ 0 ≤ r ∧ r < 1000000) ∨
  (∃ (a b : Addr) (r : Int), v = .ref a ∧ H a = some (.tup [.str "a", .ref b]) ∧ H b = some (.tup [.int r]) ∧ 0 ≤ r ∧ r < 1000000) ∨
  ∃ a : Addr, v = .ref a ∧ H a = some (.dK [(.inr "k", .int 1)])
theorem ValAt.same {H H' : Hp} {m : Nat} {v : V} (h : ValAt H m v) (s : Same H H') : ValAt H' m v := by
  rcases h with h | ⟨a, b, r, k, rfl, ha, hb, h⟩ | ⟨a, b, r, rfl, ha, hb, h⟩ | ⟨a, rfl, ha⟩
  · exact .inl h
  · exact .inr (.inl ⟨a, b, r, k, rfl, s a _ ha, s b _ hb, h⟩)
  · exact .inr (.inr (.inl ⟨a, b, r, rfl, s a _ ha, s b _ hb, h⟩))
  · exact .inr (.inr (.inr ⟨a, rfl, s a _ ha⟩))
theorem ValAt.but {H H' : Hp} {m : Nat} {v : V} {p : Addr} (h : ValAt H m v) (hp : PenAt H p) (s : But p H H') : ValAt H' m v := by
  obtain ⟨c, ns, x, d, n, f, e1, _⟩ := hp
  have np : ∀ (b : Addr) (o : HO), H b = some o → o ≠ .dK (penL c x d n f) → H' b = some o := fun b o e n => s b o (fun z => n (by rw [z, e1] at e; exact (Option.some.inj e).symm)) e
  rcases h with h | ⟨a, b, r, k, rfl, ha, hb, h⟩ | ⟨a, b, r, rfl, ha, hb, h⟩ | ⟨a, rfl, ha⟩
  · exact .inl h
  · exact .inr (.inl ⟨a, b, r, k, rfl, np a _ ha (by intro z; cases z), np b _ hb (by intro z; cases z), h⟩)
  · exact .inr (.inr (.inl ⟨a, b, r, rfl, np a _ ha (by intro z; cases z), np b _ hb (by intro z; cases z), h⟩))
  · exact .inr (.inr (.inr ⟨a, rfl, np a _ ha (by intro z; have z2 := congrArg (fun o => match o with | HO.dK l => l.length | _ => 0) z; simp [penL] at z2)⟩))
def spValue : Sp := fun vs H Q _ => ∃ p, vs = [.ref p] ∧ PenAt H p ∧ ∀ v H', ValAt H' 0 v → PenAt H' p → But p H H' → Q v H'
section
variable {P : Program} {w : World} {K : PySem.W.Frag} {mg : Str → Option Value} {base : Heap}
theorem c_law_value (T : TX K mg) : Callee P w K mg base CX0 3 "_law_value" ["pen"] spValue := by
  obtain ⟨fd, F⟩ := F_law_value T
  refine callee_mk F (g_law_value T) (fun _ _ _ _ _ _ us hl => match us, hl with | [_], _ => rfl) ?_
  refine F.ok sc_law_value (fun vs H Q E h => by obtain ⟨p, rfl, _⟩ := h; rfl) fun cdv A outer s H vs Q E hr h => ?_
  obtain ⟨p, rfl, hp, k⟩ := h
  refine ⟨_, pss_cons (ps_set (i := 1) sc_law_value.nd rfl (Or.inl rfl) (pe_f (c_law_draw T) hr (pa_cons (pv 0) (pa_cons pe_int pa_nil))))
    (pss_cons (ps_if (pt_cmpR op_eq (pv 1) pe_int (nomark _)) (pss_one (ps_ret (pe_lst (pa_cons (pe_f (c_law_draw T) hr (pa_cons (pv 0) (pa_cons pe_int pa_nil))) (pa_cons (pe_lst pa_nil) pa_nil))))) pss_nil)
    (pss_cons (ps_if (pt_cmpR op_eq (pv 1) pe_int (nomark _)) (pss_one (ps_ret (pe_tup (pa_cons pe_str (pa_cons (pe_tup (pa_cons (pe_f (c_law_draw T) hr (pa_cons (pv 0) (pa_cons (pe_op op_pow pe_int pe_int) pa_nil))) pa_nil)) pa_nil))))) pss_nil)
    (pss_one (ps_ret (pe_f (c_law_pick T) hr (pa_cons (pv 0) (pa_cons (pe_lst (pa_cons pe_non (pa_cons pe_bl (pa_cons pe_bl (pa_cons pe_int (pa_cons (pe_un un_neg pe_int) (pa_cons pe_str (pa_cons pe_str (pa_cons (pe_op op_pow pe_int pe_int) (pa_cons
      (pe_disp (pps_cons pe_str pe_int pps_nil) rfl rfl (by simp) (by decide)) pa_nil)))))))))) pa_nil))))))), ?_⟩
  refine ⟨_, rfl, p, 8, rfl, hp, by decide, by decide, fun way H1 w0 w1 hp1 b1 => ?_⟩
  refine ⟨_, rfl, rfl, _, rfl, ite2 (fun e => ?_) fun _ => ⟨_, rfl, rfl, _, rfl, ite2 (fun e => ?_) fun _ => ?_⟩⟩
  · refine ⟨_, rfl, p, 100, rfl, hp1, by decide, by decide, fun r H2 r0 r1 hp2 b2 => ?_⟩
    refine ⟨Nat.zero_le _, fun b nb => ⟨small1000 (by simp), fun a na => ?_⟩⟩
    have nab : a ≠ b := fun z => by rw [z, upd_same] at na; cases na
    have na2 : H2 a = none := by rw [upd_ne nab] at na; exact na
    have s2 : Same H2 (upd (upd H2 b (.lst [])) a (.lst [.int r, .ref b])) := (Same.new nb).trans (Same.new na)
    refine k _ _ (.inr (.inl ⟨a, b, r, 0, rfl, upd_same, ?_, Nat.le_refl _, r0, by omega⟩)) (hp2.same s2) ((b1.trans b2).trans (But.of_same s2))
    rw [upd_ne nab.symm, upd_same]
  · refine ⟨_, rfl, _, _, rfl, rfl, ⟨by decide, by decide, by decide⟩, p, _, rfl, hp1, by decide, by decide, fun r H2 r0 r1 hp2 b2 => ?_⟩
    refine ⟨small1000 (by simp), fun b nb => ⟨small1000 (by simp), fun a na => ?_⟩⟩
    have nab : a ≠ b := fun z => by rw [z, upd_same] at na; cases na
    have s2 : Same H2 (upd (upd H2 b (.tup [.int r])) a (.tup [.str "a", .ref b])) := (Same.new nb).trans (Same.new na)
    refine k _ _ (.inr (.inr (.inl ⟨a, b, r, rfl, upd_same, ?_, r0, r1⟩))) (hp2.same s2) ((b1.trans b2).trans (But.of_same s2))
    rw [upd_ne nab.symm, upd_same]
  · refine ⟨_, rfl, _, rfl, _, _, rfl, rfl, ⟨by decide, by decide, by decide⟩, fun d nd => ⟨upd_same, [(.inr "k", .int 1)], rfl, by decide, ?_⟩⟩
    refine ⟨small1000 (by simp), fun l nl => ?_⟩
    have md : mergeK [] [((.inr "k" : Key), V.int 1)] = [(.inr "k", .int 1)] := by kernel_rfl
    rw [md] at nl ⊢
    have s1 : Same H1 (upd (upd H1 d (.dK [])) d (.dK [(.inr "k", .int 1)])) := fun b o e => by rw [upd_ne (ne_of_none e nd), upd_ne (ne_of_none e nd)]; exact e
    have ed : upd (upd H1 d (.dK [])) d (.dK [(.inr "k", .int 1)]) d = some (.dK [(.inr "k", .int 1)]) := upd_same
    generalize upd (upd H1 d (.dK [])) d (.dK [(.inr "k", .int 1)]) = H2 at nl s1 ed ⊢
    have npl : p ≠ l := by obtain ⟨c, ns, x, d, n, f, e1, _⟩ := hp1; exact ne_of_none (s1 _ _ e1) nl
    have npd : d ≠ p := fun z => by obtain ⟨c, ns, x, d, n, f, e1, _⟩ := hp1; rw [← z, nd] at e1; cases e1
    refine ⟨p, l, _, rfl, npl.symm, hp1.same (s1.trans (Same.new nl)), .inl (SqL.of upd_same), by simp, by simp, fun i x H' hx hp' b' => k x H' ?_ hp' ((b1.trans (But.of_same (s1.trans (Same.new nl)))).trans b')⟩
    have flat : ∀ y : V, y ∈ flats → ValAt H' 0 y := fun y h1 => .inl h1
    match i, hx with
    | 0, hx => cases hx; exact flat _ (List.mem_of_getElem? (i := 0) rfl)
    | 1, hx => cases hx; exact flat _ (List.mem_of_getElem? (i := 1) rfl)
    | 2, hx => cases hx; exact flat _ (List.mem_of_getElem? (i := 2) rfl)
    | 3, hx => cases hx; exact flat _ (List.mem_of_getElem? (i := 3) rfl)
    | 4, hx => cases hx; exact flat _ (List.mem_of_getElem? (i := 4) rfl)
    | 5, hx => cases hx; exact flat _ (List.mem_of_getElem? (i := 5) rfl)
    | 6, hx => cases hx; exact flat _ (List.mem_of_getElem? (i := 6) rfl)
    | 7, hx => cases hx; exact flat _ (List.mem_of_getElem? (i := 7) rfl)
    | 8, hx => cases hx; exact .inr (.inr (.inr ⟨d, rfl, b' d _ npd ((Same.new nl) d _ ed)⟩))
    | n + 9, hx => simp at hx
end
end K00
namespace K00
open PySem PySem.Spec PyProof.Rows L2 Tc
/-! the errors, by number -/
def kindN : Nat → Str
  | 0 => "BadText" | 1 => "BadName" | 2 => "BadNumber" | 3 => "BadRow" | 4 => "NoName" | 5 => "TakenName" | 6 => "Unlike" | 7 => "TooMany" | 8 => "NotKept" | 9 => "NothingToUndo" | _ => "NothingToRedo"
def kindF (a b c : V) : Nat → List (Str × V)
  | 0 => [("word", b), ("line", a)] | 1 => [("name", a)] | 2 => [("number", b), ("what", a)] | 3 => [("row", b), ("what", a)] | 4 => [("name", a)] | 5 => [("name", a)] | 6 => [("what", a)]
  | 7 => [("limit", c), ("many", b), ("what", a)] | 8 => [("witness", b), ("promise", a)] | _ => []
def Raised (i : Nat) (a b c : V) (d : Option Addr) (H H' : Hp) : Prop := Same H H' ∧ ((9 ≤ i ∧ d = none) ∨ (i < 9 ∧ ∃ dd, d = some dd ∧ H' dd = some (.xd (kindF a b c i))))
def spFall (K : PySem.W.Frag) (lo : Nat) : Sp := fun vs H _ E => ∃ (i : Nat) (a b c : V), vs = [.int i, a, b, c] ∧ lo ≤ i ∧ i < 11 ∧ ∀ d H', Raised i a b c d H H' → E (.ref (He.ga K (kindN i))) d H'
section
variable {P : Program} {w : World} {K : PySem.W.Frag} {mg : Str → Option Value} {base : Heap}
theorem mono1 {i : Nat} {σ : L2.St} {H : Hp} {Q Q' : List V → Hp → Prop} (h : tCons (tVar i) tNil σ H Q) (k : ∀ vs H, Q vs H → Q' vs H) : tCons (tVar i) tNil σ H Q' := by
  obtain ⟨v, hv, q⟩ := h
  exact ⟨v, hv, k _ _ q⟩
theorem mono2 {i j : Nat} {σ : L2.St} {H : Hp} {Q Q' : List V → Hp → Prop} (h : tCons (tVar i) (tCons (tVar j) tNil) σ H Q) (k : ∀ vs H, Q vs H → Q' vs H) : tCons (tVar i) (tCons (tVar j) tNil) σ H Q' := by
  obtain ⟨v, hv, u, hu, q⟩ := h
  exact ⟨v, hv, u, hu, k _ _ q⟩
theorem mono3 {i j l : Nat} {σ : L2.St} {H : Hp} {Q Q' : List V → Hp → Prop} (h : tCons (tVar i) (tCons (tVar j) (tCons (tVar l) tNil)) σ H Q) (k : ∀ vs H, Q vs H → Q' vs H) : tCons (tVar i) (tCons (tVar j) (tCons (tVar l) tNil)) σ H Q' := by
  obtain ⟨v, hv, u, hu, z, hz, q⟩ := h
  exact ⟨v, hv, u, hu, z, hz, k _ _ q⟩
theorem r_no {i n : Int} {A B : Prop} (h : i ≠ n) (k : B) : if decide (V.int i = V.int n) = true then A else B := by
  rw [if_neg (by simpa using h)]
  exact k
theorem r_yes {i : Int} {A B : Prop} (k : A) : if decide (V.int i = V.int i) = true then A else B := by
  rw [if_pos (by simp)]
  exact k
theorem c_law_other_fall (T : TX K mg) : Callee P w K mg base (L2.CX P w) 3 "_law_other_fall" ["kind", "one", "two", "three"] (spFall K 6) := by
  obtain ⟨fd, F⟩ := F_law_other_fall T
  refine callee_mk F (g_law_other_fall T) (fun _ _ _ _ _ _ us hl => match us, hl with | [_, _, _, _], _ => rfl) ?_
  refine F.okX sc_law_other_fall (fun vs H Q E h => by obtain ⟨i, a, b, c, rfl, _⟩ := h; rfl) fun cdv A outer s H vs Q E hr h => ?_
  obtain ⟨i, a, b, c, rfl, h1, h2, k⟩ := h
  refine ⟨_, pss_cons (ps_if (pt_cmpR op_eq (pv 0) pe_int (nomark _)) (pss_one (ps_raise rfl (takes_of rfl rfl rfl rfl) (pmk_f (i_Unlike T) hr (pa_cons (pv 1) pa_nil) fun _ _ _ _ => mono1))) pss_nil)
    (pss_cons (ps_if (pt_cmpR op_eq (pv 0) pe_int (nomark _)) (pss_one (ps_raise rfl (takes_of rfl rfl rfl rfl) (pmk_f (i_TooMany T) hr (pa_cons (pv 1) (pa_cons (pv 2) (pa_cons (pv 3) pa_nil))) fun _ _ _ _ => mono3))) pss_nil)
    (pss_cons (ps_if (pt_cmpR op_eq (pv 0) pe_int (nomark _)) (pss_one (ps_raise rfl (takes_of rfl rfl rfl rfl) (pmk_f (i_NotKept T) hr (pa_cons (pv 1) (pa_cons (pv 2) pa_nil)) fun _ _ _ _ => mono2))) pss_nil)
    (pss_cons (ps_if (pt_cmpR op_eq (pv 0) pe_int (nomark _)) (pss_one (ps_raise rfl (takes_of rfl rfl rfl rfl) (pmk_f0 (i_NothingToUndo T) hr))) pss_nil)
    (pss_one (ps_raise rfl (takes_of rfl rfl rfl rfl) (pmk_f0 (i_NothingToRedo T) hr)))))), ?_⟩
  match i, h1, h2 with
  | 6, _, _ => exact ⟨_, rfl, rfl, _, rfl, r_yes ⟨_, rfl, rfl, by decide, fun d H' nd e s => k _ _ ⟨s, .inr ⟨by decide, d, rfl, e⟩⟩⟩⟩
  | 7, _, _ => exact ⟨_, rfl, rfl, _, rfl, r_no (by decide) ⟨_, rfl, rfl, _, rfl, r_yes ⟨_, rfl, _, rfl, _, rfl, rfl, by decide, fun d H' nd e s => k _ _ ⟨s, .inr ⟨by decide, d, rfl, e⟩⟩⟩⟩⟩
  | 8, _, _ => exact ⟨_, rfl, rfl, _, rfl, r_no (by decide) ⟨_, rfl, rfl, _, rfl, r_no (by decide) ⟨_, rfl, rfl, _, rfl, r_yes ⟨_, rfl, _, rfl, rfl, by decide, fun d H' nd e s => k _ _ ⟨s, .inr ⟨by decide, d, rfl, e⟩⟩⟩⟩⟩⟩
  | 9, _, _ => exact ⟨_, rfl, rfl, _, rfl, r_no (by decide) ⟨_, rfl, rfl, _, rfl, r_no (by decide) ⟨_, rfl, rfl, _, rfl, r_no (by decide) ⟨_, rfl, rfl, _, rfl, r_yes (k _ _ ⟨Same.refl _, .inl ⟨by decide, rfl⟩⟩)⟩⟩⟩⟩
  | 10, _, _ => exact ⟨_, rfl, rfl, _, rfl, r_no (by decide) ⟨_, rfl, rfl, _, rfl, r_no (by decide) ⟨_, rfl, rfl, _, rfl, r_no (by decide) ⟨_, rfl, rfl, _, rfl, r_no (by decide) (k _ _ ⟨Same.refl _, .inl ⟨by decide, rfl⟩⟩)⟩⟩⟩⟩
theorem c_law_fall (T : TX K mg) : Callee P w K mg base (L2.CX P w) 4 "_law_fall" ["kind", "one", "two", "three"] (spFall K 0) := by
  obtain ⟨fd, F⟩ := F_law_fall T
  refine callee_mk F (g_law_fall T) (fun _ _ _ _ _ _ us hl => match us, hl with | [_, _, _, _], _ => rfl) ?_
  refine F.okX sc_law_fall (fun vs H Q E h => by obtain ⟨i, a, b, c, rfl, _⟩ := h; rfl) fun cdv A outer s H vs Q E hr h => ?_
  obtain ⟨i, a, b, c, rfl, h1, h2, k⟩ := h
  refine ⟨_, pss_cons (ps_if (pt_cmpR op_eq (pv 0) pe_int (nomark _)) (pss_one (ps_raise rfl (takes_of rfl rfl rfl rfl) (pmk_f (i_BadText T) hr (pa_cons (pv 1) (pa_cons (pv 2) pa_nil)) fun _ _ _ _ => mono2))) pss_nil)
    (pss_cons (ps_if (pt_cmpR op_eq (pv 0) pe_int (nomark _)) (pss_one (ps_raise rfl (takes_of rfl rfl rfl rfl) (pmk_f (i_BadName T) hr (pa_cons (pv 1) pa_nil) fun _ _ _ _ => mono1))) pss_nil)
    (pss_cons (ps_if (pt_cmpR op_eq (pv 0) pe_int (nomark _)) (pss_one (ps_raise rfl (takes_of rfl rfl rfl rfl) (pmk_f (i_BadNumber T) hr (pa_cons (pv 1) (pa_cons (pv 2) pa_nil)) fun _ _ _ _ => mono2))) pss_nil)
    (pss_cons (ps_if (pt_cmpR op_eq (pv 0) pe_int (nomark _)) (pss_one (ps_raise rfl (takes_of rfl rfl rfl rfl) (pmk_f (i_BadRow T) hr (pa_cons (pv 1) (pa_cons (pv 2) pa_nil)) fun _ _ _ _ => mono2))) pss_nil)
    (pss_cons (ps_if (pt_cmpR op_eq (pv 0) pe_int (nomark _)) (pss_one (ps_raise rfl (takes_of rfl rfl rfl rfl) (pmk_f (i_NoName T) hr (pa_cons (pv 1) pa_nil) fun _ _ _ _ => mono1))) pss_nil)
    (pss_cons (ps_if (pt_cmpR op_eq (pv 0) pe_int (nomark _)) (pss_one (ps_raise rfl (takes_of rfl rfl rfl rfl) (pmk_f (i_TakenName T) hr (pa_cons (pv 1) pa_nil) fun _ _ _ _ => mono1))) pss_nil)
    (pss_one (ps_expr (pe_fX (c_law_other_fall T) hr (takes_of rfl rfl rfl rfl) (pa_cons (pv 0) (pa_cons (pv 1) (pa_cons (pv 2) (pa_cons (pv 3) pa_nil)))))))))))), ?_⟩
  have rest : 6 ≤ i → tDrop (tCallS (spFall K 6) (WE fun cls d _ H => E cls d H) (tCons (tVar 0) (tCons (tVar 1) (tCons (tVar 2) (tCons (tVar 3) tNil))))) { nx := fun _ H' => Q .non H', rt := Q } (start ["kind", "one", "two", "three"] [.int i, a, b, c]) H :=
    fun h6 => ⟨_, rfl, _, rfl, _, rfl, _, rfl, i, a, b, c, rfl, h6, h2, k⟩
  by_cases h6 : 6 ≤ i
  · exact ⟨_, rfl, rfl, _, rfl, r_no (by omega) ⟨_, rfl, rfl, _, rfl, r_no (by omega) ⟨_, rfl, rfl, _, rfl, r_no (by omega) ⟨_, rfl, rfl, _, rfl, r_no (by omega) ⟨_, rfl, rfl, _, rfl, r_no (by omega) ⟨_, rfl, rfl, _, rfl, r_no (by omega) (rest h6)⟩⟩⟩⟩⟩⟩
  clear rest
  match i, h1, h6 with
  | 0, _, _ => exact ⟨_, rfl, rfl, _, rfl, r_yes ⟨_, rfl, _, rfl, rfl, by decide, fun d H' nd e s => k _ _ ⟨s, .inr ⟨by decide, d, rfl, e⟩⟩⟩⟩
  | 1, _, _ => exact ⟨_, rfl, rfl, _, rfl, r_no (by decide) ⟨_, rfl, rfl, _, rfl, r_yes ⟨_, rfl, rfl, by decide, fun d H' nd e s => k _ _ ⟨s, .inr ⟨by decide, d, rfl, e⟩⟩⟩⟩⟩
  | 2, _, _ => exact ⟨_, rfl, rfl, _, rfl, r_no (by decide) ⟨_, rfl, rfl, _, rfl, r_no (by decide) ⟨_, rfl, rfl, _, rfl, r_yes ⟨_, rfl, _, rfl, rfl, by decide, fun d H' nd e s => k _ _ ⟨s, .inr ⟨by decide, d, rfl, e⟩⟩⟩⟩⟩⟩
  | 3, _, _ => exact ⟨_, rfl, rfl, _, rfl, r_no (by decide) ⟨_, rfl, rfl, _, rfl, r_no (by decide) ⟨_, rfl, rfl, _, rfl, r_no (by decide) ⟨_, rfl, rfl, _, rfl, r_yes ⟨_, rfl, _, rfl, rfl, by decide, fun d H' nd e s => k _ _ ⟨s, .inr ⟨by decide, d, rfl, e⟩⟩⟩⟩⟩⟩⟩
  | 4, _, _ => exact ⟨_, rfl, rfl, _, rfl, r_no (by decide) ⟨_, rfl, rfl, _, rfl, r_no (by decide) ⟨_, rfl, rfl, _, rfl, r_no (by decide) ⟨_, rfl, rfl, _, rfl, r_no (by decide) ⟨_, rfl, rfl, _, rfl, r_yes ⟨_, rfl, rfl, by decide, fun d H' nd e s => k _ _ ⟨s, .inr ⟨by decide, d, rfl, e⟩⟩⟩⟩⟩⟩⟩⟩
  | 5, _, _ => exact ⟨_, rfl, rfl, _, rfl, r_no (by decide) ⟨_, rfl, rfl, _, rfl, r_no (by decide) ⟨_, rfl, rfl, _, rfl, r_no (by decide) ⟨_, rfl, rfl, _, rfl, r_no (by decide) ⟨_, rfl, rfl, _, rfl, r_no (by decide) ⟨_, rfl, rfl, _, rfl, r_yes ⟨_, rfl, rfl, by decide, fun d H' nd e s => k _ _ ⟨s, .inr ⟨by decide, d, rfl, e⟩⟩⟩⟩⟩⟩⟩⟩⟩
  | i + 6, _, z => omega
end
end K00
namespace K00
open PySem PySem.Spec PyProof.Rows L2 Tc
theorem upd_upd {H : Hp} {p : Addr} {o o' : HO} : upd (upd H p o) p o' = upd H p o' := by
  funext b
  by_cases z : b = p
  · rw [z, upd_same, upd_same]
  · rw [upd_ne z, upd_ne z, upd_ne z]
theorem dict_same {H H' : Hp} {d : Option Addr} (h : DictAt H d) (s : Same H H') : DictAt H' d := by
  rcases h with h | ⟨dd, fs, h, e⟩
  · exact .inl h
  · exact .inr ⟨dd, fs, h, s dd _ e⟩
/-- a class that is told of one of the errors -/
theorem is_step {K : PySem.W.Frag} {D : Ends} {σ : L2.St} {H : Hp} {a l C c : Addr} {b : Bool} {y : Str} {xs : List V} {d : Option Addr} (h0 : σ[0]? = some (some (.ref a))) (h1 : σ[1]? = some (some (.ref l))) (E : L2.ExcC K C) (hk : PySem.W.kitOne K (.ref C) (.ref c) = some b)
    (hd : DictAt H d) (nl : H l = none) (hz : xs.length ≤ 900) (k : D.nx σ (upd H l (.lst (xs ++ if b = true then [.str y] else [])))) :
    tIfS (tB (tCB (rIsX K a (.ref C) d) (tCons (tVar 0) (tCons (tC (.ref c)) tNil)))) (tDrop (tBM K "list" rAppend (tVar 1) (tCons (tC (.str y)) tNil))) tNext D σ (upd H l (.lst xs)) := by
  refine ⟨_, h0, C, .ref c, .ref c, b, rfl, E, dict_same hd (Same.new nl), rfl, fun u hu => hu, hk, b, rfl, ?_⟩
  cases b with
  | false =>
    simp only [Bool.false_eq_true, if_false, List.append_nil] at k
    exact k
  | true => exact ⟨_, h1, .inl ⟨rfl, xs, SqL.of upd_same⟩, l, xs, .str y, rfl, rfl, upd_same, Nat.lt_of_le_of_lt hz (by decide), by rw [upd_upd]; exact k⟩
def spCls (K : PySem.W.Frag) (lo : Nat) : Pins → Sp := fun pn vs H Q _ => ∃ (a : Addr) (oe : Obj) (d : Option Addr) (i : Nat), vs = [.ref a] ∧ i < 11 ∧ (a, oe) ∈ pn ∧ Zc (.ref (He.ga K (kindN i))) d oe ∧ (∃ vs, oe.data = .fields vs) ∧ DictAt H d ∧
  ∀ l H', H l = none → Same H H' → H' l = some (.lst (if lo ≤ i then [.str (kindN i)] else [])) → Q (.ref l) H'
theorem kind_in {i : Nat} (h : i < 11) : kindN i ∈ errs.map (·.1) := by
  match i, h with
  | 0, _ => decide
  | 1, _ => decide
  | 2, _ => decide
  | 3, _ => decide
  | 4, _ => decide
  | 5, _ => decide
  | 6, _ => decide
  | 7, _ => decide
  | 8, _ => decide
  | 9, _ => decide
  | 10, _ => decide
theorem kind_err {K : PySem.W.Frag} {mg : Str → Option Value} (T : TX K mg) {i : Nat} (h : i < 11) : ErrC K (He.ga K (kindN i)) ["line", "word", "name", "what", "number", "row", "many", "limit", "promise", "witness"] := by
  match i, h with
  | 0, _ => exact (T.each _ (List.mem_of_getElem? (i := 0) rfl)).1
  | 1, _ => exact (T.each _ (List.mem_of_getElem? (i := 1) rfl)).1
  | 2, _ => exact (T.each _ (List.mem_of_getElem? (i := 2) rfl)).1
  | 3, _ => exact (T.each _ (List.mem_of_getElem? (i := 3) rfl)).1
  | 4, _ => exact (T.each _ (List.mem_of_getElem? (i := 4) rfl)).1
  | 5, _ => exact (T.each _ (List.mem_of_getElem? (i := 5) rfl)).1
  | 6, _ => exact (T.each _ (List.mem_of_getElem? (i := 6) rfl)).1
  | 7, _ => exact (T.each _ (List.mem_of_getElem? (i := 7) rfl)).1
  | 8, _ => exact (T.each _ (List.mem_of_getElem? (i := 8) rfl)).1
  | 9, _ => exact (T.each _ (List.mem_of_getElem? (i := 9) rfl)).1
  | 10, _ => exact (T.each _ (List.mem_of_getElem? (i := 10) rfl)).1
section
variable {P : Program} {w : World} {K : PySem.W.Frag} {mg : Str → Option Value} {base : Heap}
theorem c_law_more_kinds (T : TX K mg) : CalleeG P w K mg base CX0 AnyA 1 "_law_more_kinds" ["e"] (spCls K 6) := by
  obtain ⟨fd, F⟩ := F_law_more_kinds T
  refine calleeG_mk F (g_law_more_kinds T) (fun _ _ _ _ _ _ us hl => match us, hl with | [_], _ => rfl) ?_
  refine funG (calm := false) F sc_law_more_kinds (fun _ _ z => nomatch z) (fun pn vs H Q E h => by obtain ⟨a, oe, d, i, rfl, _⟩ := h; rfl) fun cdv pn A outer s H vs Q E _ hr h => ?_
  obtain ⟨a, oe, d, i, rfl, hi, hm, hz, hf, hd, k⟩ := h
  have hh : HeldAt (cxG false pn CX0 P w K mg base ["e", "found"] "_law_more_kinds" (defScope s_law_more_kinds) (He.ga K "_law_more_kinds") cdv A outer s H E) a (.ref (He.ga K (kindN i))) d := ⟨oe, hm, hz, hf⟩
  refine ⟨_, pss_cons (ps_set (i := 1) sc_law_more_kinds.nd rfl (Or.inl rfl) (pe_lst pa_nil))
    (pss_cons (ps_if (pt_val (pe_callB (call_isX hh) (by rfl) (g_isinstance T) PyProof.Rows.boot_isinstance (pa_cons (pv 0) (pa_cons (pe_glob (v := .ref (He.ga K "Unlike")) (by rfl) (g_Unlike T) rfl) pa_nil)))) (pss_one (ps_expr (pe_bm PySem.F.plainAttrs_list PySem.F.slot_list_append PySem.F.type_list_append mt_append (pv 1) (pa_cons pe_str pa_nil)))) pss_nil)
    (pss_cons (ps_if (pt_val (pe_callB (call_isX hh) (by rfl) (g_isinstance T) PyProof.Rows.boot_isinstance (pa_cons (pv 0) (pa_cons (pe_glob (v := .ref (He.ga K "TooMany")) (by rfl) (g_TooMany T) rfl) pa_nil)))) (pss_one (ps_expr (pe_bm PySem.F.plainAttrs_list PySem.F.slot_list_append PySem.F.type_list_append mt_append (pv 1) (pa_cons pe_str pa_nil)))) pss_nil)
    (pss_cons (ps_if (pt_val (pe_callB (call_isX hh) (by rfl) (g_isinstance T) PyProof.Rows.boot_isinstance (pa_cons (pv 0) (pa_cons (pe_glob (v := .ref (He.ga K "NotKept")) (by rfl) (g_NotKept T) rfl) pa_nil)))) (pss_one (ps_expr (pe_bm PySem.F.plainAttrs_list PySem.F.slot_list_append PySem.F.type_list_append mt_append (pv 1) (pa_cons pe_str pa_nil)))) pss_nil)
    (pss_cons (ps_if (pt_val (pe_callB (call_isX hh) (by rfl) (g_isinstance T) PyProof.Rows.boot_isinstance (pa_cons (pv 0) (pa_cons (pe_glob (v := .ref (He.ga K "NothingToUndo")) (by rfl) (g_NothingToUndo T) rfl) pa_nil)))) (pss_one (ps_expr (pe_bm PySem.F.plainAttrs_list PySem.F.slot_list_append PySem.F.type_list_append mt_append (pv 1) (pa_cons pe_str pa_nil)))) pss_nil)
    (pss_cons (ps_if (pt_val (pe_callB (call_isX hh) (by rfl) (g_isinstance T) PyProof.Rows.boot_isinstance (pa_cons (pv 0) (pa_cons (pe_glob (v := .ref (He.ga K "NothingToRedo")) (by rfl) (g_NothingToRedo T) rfl) pa_nil)))) (pss_one (ps_expr (pe_bm PySem.F.plainAttrs_list PySem.F.slot_list_append PySem.F.type_list_append mt_append (pv 1) (pa_cons pe_str pa_nil)))) pss_nil)
    (pss_one (ps_ret (pv 1)))))))), ?_⟩
  refine ⟨Nat.zero_le _, fun l nl => ?_⟩
  have E1 := (kind_err T hi).exc
  have kk : ∀ y, y ∈ errs.map (·.1) → PySem.W.kitOne K (.ref (He.ga K (kindN i))) (.ref (He.ga K y)) = some (decide (kindN i = y)) := fun y hy => T.kin.own _ (kind_in hi) y hy
  refine is_step rfl rfl E1 (kk "Unlike" (by decide)) hd nl (by decide) ?_
  refine is_step rfl rfl E1 (kk "TooMany" (by decide)) hd nl (by split <;> decide) ?_
  refine is_step rfl rfl E1 (kk "NotKept" (by decide)) hd nl (by split <;> split <;> decide) ?_
  refine is_step rfl rfl E1 (kk "NothingToUndo" (by decide)) hd nl (by split <;> split <;> split <;> decide) ?_
  refine is_step rfl rfl E1 (kk "NothingToRedo" (by decide)) hd nl (by split <;> split <;> split <;> split <;> decide) ?_
  refine ⟨_, rfl, k l _ nl (Same.new nl) ?_⟩
  rw [upd_same]
  match i, hi with
  | 0, _ => rfl
  | 1, _ => rfl
  | 2, _ => rfl
  | 3, _ => rfl
  | 4, _ => rfl
  | 5, _ => rfl
  | 6, _ => rfl
  | 7, _ => rfl
  | 8, _ => rfl
  | 9, _ => rfl
  | 10, _ => rfl
end
end K00
namespace K00
open PySem PySem.Spec PyProof.Rows L2 Tc
section
variable {P : Program} {w : World} {K : PySem.W.Frag} {mg : Str → Option Value} {base : Heap}
theorem c_law_classes (T : TX K mg) : CalleeG P w K mg base CX0 AnyA 2 "_law_classes" ["e"] (spCls K 0) := by
  obtain ⟨fd, F⟩ := F_law_classes T
  refine calleeG_mk F (g_law_classes T) (fun _ _ _ _ _ _ us hl => match us, hl with | [_], _ => rfl) ?_
  refine funG (calm := false) F sc_law_classes (fun _ _ z => nomatch z) (fun pn vs H Q E h => by obtain ⟨a, oe, d, i, rfl, _⟩ := h; rfl) fun cdv pn A outer s H vs Q E _ hr h => ?_
  obtain ⟨a, oe, d, i, rfl, hi, hm, hz, hf, hd, k⟩ := h
  have hh : HeldAt (cxG false pn CX0 P w K mg base ["e", "found"] "_law_classes" (defScope s_law_classes) (He.ga K "_law_classes") cdv A outer s H E) a (.ref (He.ga K (kindN i))) d := ⟨oe, hm, hz, hf⟩
  refine ⟨_, pss_cons (ps_set (i := 1) sc_law_classes.nd rfl (Or.inl rfl) (pe_lst pa_nil))
    (pss_cons (ps_if (pt_val (pe_callB (call_isX hh) (by rfl) (g_isinstance T) PyProof.Rows.boot_isinstance (pa_cons (pv 0) (pa_cons (pe_glob (v := .ref (He.ga K "BadText")) (by rfl) (g_BadText T) rfl) pa_nil)))) (pss_one (ps_expr (pe_bm PySem.F.plainAttrs_list PySem.F.slot_list_append PySem.F.type_list_append mt_append (pv 1) (pa_cons pe_str pa_nil)))) pss_nil)
    (pss_cons (ps_if (pt_val (pe_callB (call_isX hh) (by rfl) (g_isinstance T) PyProof.Rows.boot_isinstance (pa_cons (pv 0) (pa_cons (pe_glob (v := .ref (He.ga K "BadName")) (by rfl) (g_BadName T) rfl) pa_nil)))) (pss_one (ps_expr (pe_bm PySem.F.plainAttrs_list PySem.F.slot_list_append PySem.F.type_list_append mt_append (pv 1) (pa_cons pe_str pa_nil)))) pss_nil)
    (pss_cons (ps_if (pt_val (pe_callB (call_isX hh) (by rfl) (g_isinstance T) PyProof.Rows.boot_isinstance (pa_cons (pv 0) (pa_cons (pe_glob (v := .ref (He.ga K "BadNumber")) (by rfl) (g_BadNumber T) rfl) pa_nil)))) (pss_one (ps_expr (pe_bm PySem.F.plainAttrs_list PySem.F.slot_list_append PySem.F.type_list_append mt_append (pv 1) (pa_cons pe_str pa_nil)))) pss_nil)
    (pss_cons (ps_if (pt_val (pe_callB (call_isX hh) (by rfl) (g_isinstance T) PyProof.Rows.boot_isinstance (pa_cons (pv 0) (pa_cons (pe_glob (v := .ref (He.ga K "BadRow")) (by rfl) (g_BadRow T) rfl) pa_nil)))) (pss_one (ps_expr (pe_bm PySem.F.plainAttrs_list PySem.F.slot_list_append PySem.F.type_list_append mt_append (pv 1) (pa_cons pe_str pa_nil)))) pss_nil)
    (pss_cons (ps_if (pt_val (pe_callB (call_isX hh) (by rfl) (g_isinstance T) PyProof.Rows.boot_isinstance (pa_cons (pv 0) (pa_cons (pe_glob (v := .ref (He.ga K "NoName")) (by rfl) (g_NoName T) rfl) pa_nil)))) (pss_one (ps_expr (pe_bm PySem.F.plainAttrs_list PySem.F.slot_list_append PySem.F.type_list_append mt_append (pv 1) (pa_cons pe_str pa_nil)))) pss_nil)
    (pss_cons (ps_if (pt_val (pe_callB (call_isX hh) (by rfl) (g_isinstance T) PyProof.Rows.boot_isinstance (pa_cons (pv 0) (pa_cons (pe_glob (v := .ref (He.ga K "TakenName")) (by rfl) (g_TakenName T) rfl) pa_nil)))) (pss_one (ps_expr (pe_bm PySem.F.plainAttrs_list PySem.F.slot_list_append PySem.F.type_list_append mt_append (pv 1) (pa_cons pe_str pa_nil)))) pss_nil)
    (pss_one (ps_ret (pe_op op_cat (pv 1) (pe_g (pn := pn) (c_law_more_kinds T) hr trivial (fun _ z => z) (pa_cons (pv 0) pa_nil))))))))))), ?_⟩
  refine ⟨Nat.zero_le _, fun l nl => ?_⟩
  have E1 := (kind_err T hi).exc
  have kk : ∀ y, y ∈ errs.map (·.1) → PySem.W.kitOne K (.ref (He.ga K (kindN i))) (.ref (He.ga K y)) = some (decide (kindN i = y)) := fun y hy => T.kin.own _ (kind_in hi) y hy
  refine is_step rfl rfl E1 (kk "BadText" (by decide)) hd nl (by decide) ?_
  refine is_step rfl rfl E1 (kk "BadName" (by decide)) hd nl (by split <;> decide) ?_
  refine is_step rfl rfl E1 (kk "BadNumber" (by decide)) hd nl (by split <;> split <;> decide) ?_
  refine is_step rfl rfl E1 (kk "BadRow" (by decide)) hd nl (by split <;> split <;> split <;> decide) ?_
  refine is_step rfl rfl E1 (kk "NoName" (by decide)) hd nl (by split <;> split <;> split <;> split <;> decide) ?_
  refine is_step rfl rfl E1 (kk "TakenName" (by decide)) hd nl (by split <;> split <;> split <;> split <;> split <;> decide) ?_
  refine ⟨_, rfl, _, rfl, a, oe, d, i, rfl, hi, hm, hz, hf, dict_same hd (Same.new nl), fun l2 H' nl2 s2 e2 => ?_⟩
  have e1 := s2 l _ upd_same
  refine ⟨l, l2, _, _, rfl, rfl, e1, e2, ?_, fun q nq => k q _ ?_ ((Same.new nl).trans (s2.trans (Same.new nq))) ?_⟩
  · refine Nat.le_of_lt (small1000 ?_)
    match i, hi with
    | 0, _ => decide
    | 1, _ => decide
    | 2, _ => decide
    | 3, _ => decide
    | 4, _ => decide
    | 5, _ => decide
    | 6, _ => decide
    | 7, _ => decide
    | 8, _ => decide
    | 9, _ => decide
    | 10, _ => decide
  · exact ((Same.new nl).trans s2).free nq
  · rw [upd_same]
    match i, hi with
    | 0, _ => rfl
    | 1, _ => rfl
    | 2, _ => rfl
    | 3, _ => rfl
    | 4, _ => rfl
    | 5, _ => rfl
    | 6, _ => rfl
    | 7, _ => rfl
    | 8, _ => rfl
    | 9, _ => rfl
    | 10, _ => rfl
/-! what is read of the error's fields -/
def sizesN : Nat → Nat
  | 0 => 2 | 1 => 1 | 2 => 2 | 3 => 2 | 4 => 1 | 5 => 1 | 6 => 1 | 7 => 3 | 8 => 2 | _ => 0
def Flds (H : Hp) (i : Nat) (x y z : V) (d : Option Addr) : Prop := (9 ≤ i ∧ d = none) ∨ (i < 9 ∧ ∃ dd, d = some dd ∧ H dd = some (.xd (kindF x y z i)))
def spFields (K : PySem.W.Frag) : Pins → Sp := fun pn vs H Q _ => ∃ (a : Addr) (oe : Obj) (d : Option Addr) (i : Nat) (x y z : V), vs = [.int i, .ref a] ∧ i < 11 ∧ (a, oe) ∈ pn ∧ Zc (.ref (He.ga K (kindN i))) d oe ∧ (∃ vs, oe.data = .fields vs) ∧ Flds H i x y z d ∧
  ∀ l H', H l = none → Same H H' → H' l = some (.lst ([x, y, z].take (sizesN i))) → Q (.ref l) H'
theorem beq_dec (n i : Int) : (n == i) = decide (i = n) := by
  rw [Bool.eq_iff_iff, beq_iff_eq, decide_eq_true_iff]
  exact eq_comm
section
variable {K : PySem.W.Frag} {D : Ends} {σ : L2.St} {H : Hp} {t u : TS} {i n m l : Int}
theorem in1y (h0 : σ[0]? = some (some (.int i))) (h : i = n) (k : ∀ H', Same H H' → t D σ H') : tIfS (tTest (tOp (rIn K false) (tVar 0) (tTup (tCons (tC (.int n)) tNil)))) t u D σ H := by
  refine ⟨_, h0, small1000 (by simp), fun p np => ⟨p, _, rfl, .inr (SqT.of upd_same), rfl, rfl, true, congrArg V.bl ?_, k _ (Same.new np)⟩⟩
  simp only [Bool.false_eq_true, if_false, inV, eqV, List.any_cons, List.any_nil, beq_dec, h, decide_true, Bool.true_or]
theorem in1n (h0 : σ[0]? = some (some (.int i))) (h : i ≠ n) (k : ∀ H', Same H H' → u D σ H') : tIfS (tTest (tOp (rIn K false) (tVar 0) (tTup (tCons (tC (.int n)) tNil)))) t u D σ H := by
  refine ⟨_, h0, small1000 (by simp), fun p np => ⟨p, _, rfl, .inr (SqT.of upd_same), rfl, rfl, false, congrArg V.bl ?_, k _ (Same.new np)⟩⟩
  simp only [Bool.false_eq_true, if_false, inV, eqV, List.any_cons, List.any_nil, beq_dec, h, decide_false, Bool.false_or]
theorem in3y (h0 : σ[0]? = some (some (.int i))) (h : i = n ∨ i = m ∨ i = l) (k : ∀ H', Same H H' → t D σ H') : tIfS (tTest (tOp (rIn K false) (tVar 0) (tTup (tCons (tC (.int n)) (tCons (tC (.int m)) (tCons (tC (.int l)) tNil)))))) t u D σ H := by
  refine ⟨_, h0, small1000 (by simp), fun p np => ⟨p, _, rfl, .inr (SqT.of upd_same), rfl, rfl, true, congrArg V.bl ?_, k _ (Same.new np)⟩⟩
  simp only [Bool.false_eq_true, if_false, inV, eqV, List.any_cons, List.any_nil, beq_dec]
  rcases h with h | h | h <;> simp only [h, decide_true, Bool.true_or, Bool.or_true]
theorem in3n (h0 : σ[0]? = some (some (.int i))) (h : i ≠ n ∧ i ≠ m ∧ i ≠ l) (k : ∀ H', Same H H' → u D σ H') : tIfS (tTest (tOp (rIn K false) (tVar 0) (tTup (tCons (tC (.int n)) (tCons (tC (.int m)) (tCons (tC (.int l)) tNil)))))) t u D σ H := by
  refine ⟨_, h0, small1000 (by simp), fun p np => ⟨p, _, rfl, .inr (SqT.of upd_same), rfl, rfl, false, congrArg V.bl ?_, k _ (Same.new np)⟩⟩
  simp only [Bool.false_eq_true, if_false, inV, eqV, List.any_cons, List.any_nil, beq_dec, h.1, h.2.1, h.2.2, decide_false, Bool.false_or]
end
theorem c_law_fields (T : TX K mg) : CalleeG P w K mg base CX0 AnyA 1 "_law_fields" ["kind", "e"] (spFields K) := by
  obtain ⟨fd, F⟩ := F_law_fields T
  refine calleeG_mk F (g_law_fields T) (fun _ _ _ _ _ _ us hl => match us, hl with | [_, _], _ => rfl) ?_
  refine funG (calm := false) F sc_law_fields (fun _ _ z => nomatch z) (fun pn vs H Q E h => by obtain ⟨a, oe, d, i, x, y, z, rfl, _⟩ := h; rfl) fun cdv pn A outer s H vs Q E _ hr h => ?_
  obtain ⟨a, oe, d, i, x, y, z, rfl, hi, hm, hz, hf, hd, k⟩ := h
  have hh : HeldAt (cxG false pn CX0 P w K mg base ["kind", "e"] "_law_fields" (defScope s_law_fields) (He.ga K "_law_fields") cdv A outer s H E) a (.ref (He.ga K (kindN i))) d := ⟨oe, hm, hz, hf⟩
  refine ⟨_, pss_cons (ps_if (pt_cmpR op_in_seq (pv 0) (pe_tup (pa_cons (pe_int) pa_nil)) (by rfl)) (pss_one (ps_ret (pe_lst (pa_cons (pe_fldX hh (pv 1)) (pa_cons (pe_fldX hh (pv 1)) pa_nil))))) pss_nil)
    (pss_cons (ps_if (pt_cmpR op_in_seq (pv 0) (pe_tup (pa_cons (pe_int) (pa_cons (pe_int) (pa_cons (pe_int) pa_nil)))) (by rfl)) (pss_one (ps_ret (pe_lst (pa_cons (pe_fldX hh (pv 1)) pa_nil)))) pss_nil)
    (pss_cons (ps_if (pt_cmpR op_in_seq (pv 0) (pe_tup (pa_cons (pe_int) pa_nil)) (by rfl)) (pss_one (ps_ret (pe_lst (pa_cons (pe_fldX hh (pv 1)) (pa_cons (pe_fldX hh (pv 1)) pa_nil))))) pss_nil)
    (pss_cons (ps_if (pt_cmpR op_in_seq (pv 0) (pe_tup (pa_cons (pe_int) pa_nil)) (by rfl)) (pss_one (ps_ret (pe_lst (pa_cons (pe_fldX hh (pv 1)) (pa_cons (pe_fldX hh (pv 1)) pa_nil))))) pss_nil)
    (pss_cons (ps_if (pt_cmpR op_in_seq (pv 0) (pe_tup (pa_cons (pe_int) pa_nil)) (by rfl)) (pss_one (ps_ret (pe_lst (pa_cons (pe_fldX hh (pv 1)) pa_nil)))) pss_nil)
    (pss_cons (ps_if (pt_cmpR op_in_seq (pv 0) (pe_tup (pa_cons (pe_int) pa_nil)) (by rfl)) (pss_one (ps_ret (pe_lst (pa_cons (pe_fldX hh (pv 1)) (pa_cons (pe_fldX hh (pv 1)) (pa_cons (pe_fldX hh (pv 1)) pa_nil)))))) pss_nil)
    (pss_cons (ps_if (pt_cmpR op_in_seq (pv 0) (pe_tup (pa_cons (pe_int) pa_nil)) (by rfl)) (pss_one (ps_ret (pe_lst (pa_cons (pe_fldX hh (pv 1)) (pa_cons (pe_fldX hh (pv 1)) pa_nil))))) pss_nil)
    (pss_one (ps_ret (pe_lst pa_nil))))))))), ?_⟩
  have E1 := (kind_err T hi).exc
  have no : ∀ f : Str, f ∈ (["line", "word", "name", "what", "number", "row", "many", "limit", "promise", "witness"] : List Str) → PySem.W.findIn K (.ref (He.ga K (kindN i))) f = some none := (kind_err T hi).none_
  match i, hi with
  | 0, _ =>
    obtain ⟨z0, _⟩ | ⟨_, dd, rfl, ed⟩ := hd
    · exact absurd z0 (by decide)
    refine in1y rfl (by decide) fun H1 s1 => ?_
    exact ⟨_, rfl, rfl, _, dd, _, _, rfl, E1, no "line" (by decide), rfl, s1 dd _ ed, rfl, ⟨_, rfl, rfl, _, dd, _, _, rfl, E1, no "word" (by decide), rfl, s1 dd _ ed, rfl, ⟨small1000 (by simp), fun l nl => k l _ (s1.free nl) (s1.trans (Same.new nl)) (by rw [upd_same]; rfl)⟩⟩⟩
  | 1, _ =>
    obtain ⟨z0, _⟩ | ⟨_, dd, rfl, ed⟩ := hd
    · exact absurd z0 (by decide)
    refine in1n rfl (by decide) fun H1 s1 => ?_
    refine in3y rfl (by decide) fun H2 s2 => ?_
    exact ⟨_, rfl, rfl, _, dd, _, _, rfl, E1, no "name" (by decide), rfl, (s1.trans s2) dd _ ed, rfl, ⟨small1000 (by simp), fun l nl => k l _ ((s1.trans s2).free nl) ((s1.trans s2).trans (Same.new nl)) (by rw [upd_same]; rfl)⟩⟩
  | 2, _ =>
    obtain ⟨z0, _⟩ | ⟨_, dd, rfl, ed⟩ := hd
    · exact absurd z0 (by decide)
    refine in1n rfl (by decide) fun H1 s1 => ?_
    refine in3n rfl (by decide) fun H2 s2 => ?_
    refine in1y rfl (by decide) fun H3 s3 => ?_
    exact ⟨_, rfl, rfl, _, dd, _, _, rfl, E1, no "what" (by decide), rfl, ((s1.trans s2).trans s3) dd _ ed, rfl, ⟨_, rfl, rfl, _, dd, _, _, rfl, E1, no "number" (by decide), rfl, ((s1.trans s2).trans s3) dd _ ed, rfl, ⟨small1000 (by simp), fun l nl => k l _ (((s1.trans s2).trans s3).free nl) (((s1.trans s2).trans s3).trans (Same.new nl)) (by rw [upd_same]; rfl)⟩⟩⟩
  | 3, _ =>
    obtain ⟨z0, _⟩ | ⟨_, dd, rfl, ed⟩ := hd
    · exact absurd z0 (by decide)
    refine in1n rfl (by decide) fun H1 s1 => ?_
    refine in3n rfl (by decide) fun H2 s2 => ?_
    refine in1n rfl (by decide) fun H3 s3 => ?_
    refine in1y rfl (by decide) fun H4 s4 => ?_
    exact ⟨_, rfl, rfl, _, dd, _, _, rfl, E1, no "what" (by decide), rfl, (((s1.trans s2).trans s3).trans s4) dd _ ed, rfl, ⟨_, rfl, rfl, _, dd, _, _, rfl, E1, no "row" (by decide), rfl, (((s1.trans s2).trans s3).trans s4) dd _ ed, rfl, ⟨small1000 (by simp), fun l nl => k l _ ((((s1.trans s2).trans s3).trans s4).free nl) ((((s1.trans s2).trans s3).trans s4).trans (Same.new nl)) (by rw [upd_same]; rfl)⟩⟩⟩
  | 4, _ =>
    obtain ⟨z0, _⟩ | ⟨_, dd, rfl, ed⟩ := hd
    · exact absurd z0 (by decide)
    refine in1n rfl (by decide) fun H1 s1 => ?_
    refine in3y rfl (by decide) fun H2 s2 => ?_
    exact ⟨_, rfl, rfl, _, dd, _, _, rfl, E1, no "name" (by decide), rfl, (s1.trans s2) dd _ ed, rfl, ⟨small1000 (by simp), fun l nl => k l _ ((s1.trans s2).free nl) ((s1.trans s2).trans (Same.new nl)) (by rw [upd_same]; rfl)⟩⟩
  | 5, _ =>
    obtain ⟨z0, _⟩ | ⟨_, dd, rfl, ed⟩ := hd
    · exact absurd z0 (by decide)
    refine in1n rfl (by decide) fun H1 s1 => ?_
    refine in3y rfl (by decide) fun H2 s2 => ?_
    exact ⟨_, rfl, rfl, _, dd, _, _, rfl, E1, no "name" (by decide), rfl, (s1.trans s2) dd _ ed, rfl, ⟨small1000 (by simp), fun l nl => k l _ ((s1.trans s2).free nl) ((s1.trans s2).trans (Same.new nl)) (by rw [upd_same]; rfl)⟩⟩
  | 6, _ =>
    obtain ⟨z0, _⟩ | ⟨_, dd, rfl, ed⟩ := hd
    · exact absurd z0 (by decide)
    refine in1n rfl (by decide) fun H1 s1 => ?_
    refine in3n rfl (by decide) fun H2 s2 => ?_
    refine in1n rfl (by decide) fun H3 s3 => ?_
    refine in1n rfl (by decide) fun H4 s4 => ?_
    refine in1y rfl (by decide) fun H5 s5 => ?_
    exact ⟨_, rfl, rfl, _, dd, _, _, rfl, E1, no "what" (by decide), rfl, ((((s1.trans s2).trans s3).trans s4).trans s5) dd _ ed, rfl, ⟨small1000 (by simp), fun l nl => k l _ (((((s1.trans s2).trans s3).trans s4).trans s5).free nl) (((((s1.trans s2).trans s3).trans s4).trans s5).trans (Same.new nl)) (by rw [upd_same]; rfl)⟩⟩
  | 7, _ =>
    obtain ⟨z0, _⟩ | ⟨_, dd, rfl, ed⟩ := hd
    · exact absurd z0 (by decide)
    refine in1n rfl (by decide) fun H1 s1 => ?_
    refine in3n rfl (by decide) fun H2 s2 => ?_
    refine in1n rfl (by decide) fun H3 s3 => ?_
    refine in1n rfl (by decide) fun H4 s4 => ?_
    refine in1n rfl (by decide) fun H5 s5 => ?_
    refine in1y rfl (by decide) fun H6 s6 => ?_
    exact ⟨_, rfl, rfl, _, dd, _, _, rfl, E1, no "what" (by decide), rfl, (((((s1.trans s2).trans s3).trans s4).trans s5).trans s6) dd _ ed, rfl, ⟨_, rfl, rfl, _, dd, _, _, rfl, E1, no "many" (by decide), rfl, (((((s1.trans s2).trans s3).trans s4).trans s5).trans s6) dd _ ed, rfl, ⟨_, rfl, rfl, _, dd, _, _, rfl, E1, no "limit" (by decide), rfl, (((((s1.trans s2).trans s3).trans s4).trans s5).trans s6) dd _ ed, rfl, ⟨small1000 (by simp), fun l nl => k l _ ((((((s1.trans s2).trans s3).trans s4).trans s5).trans s6).free nl) ((((((s1.trans s2).trans s3).trans s4).trans s5).trans s6).trans (Same.new nl)) (by rw [upd_same]; rfl)⟩⟩⟩⟩
  | 8, _ =>
    obtain ⟨z0, _⟩ | ⟨_, dd, rfl, ed⟩ := hd
    · exact absurd z0 (by decide)
    refine in1n rfl (by decide) fun H1 s1 => ?_
    refine in3n rfl (by decide) fun H2 s2 => ?_
    refine in1n rfl (by decide) fun H3 s3 => ?_
    refine in1n rfl (by decide) fun H4 s4 => ?_
    refine in1n rfl (by decide) fun H5 s5 => ?_
    refine in1n rfl (by decide) fun H6 s6 => ?_
    refine in1y rfl (by decide) fun H7 s7 => ?_
    exact ⟨_, rfl, rfl, _, dd, _, _, rfl, E1, no "promise" (by decide), rfl, ((((((s1.trans s2).trans s3).trans s4).trans s5).trans s6).trans s7) dd _ ed, rfl, ⟨_, rfl, rfl, _, dd, _, _, rfl, E1, no "witness" (by decide), rfl, ((((((s1.trans s2).trans s3).trans s4).trans s5).trans s6).trans s7) dd _ ed, rfl, ⟨small1000 (by simp), fun l nl => k l _ (((((((s1.trans s2).trans s3).trans s4).trans s5).trans s6).trans s7).free nl) (((((((s1.trans s2).trans s3).trans s4).trans s5).trans s6).trans s7).trans (Same.new nl)) (by rw [upd_same]; rfl)⟩⟩⟩
  | 9, _ =>
    refine in1n rfl (by decide) fun H1 s1 => ?_
    refine in3n rfl (by decide) fun H2 s2 => ?_
    refine in1n rfl (by decide) fun H3 s3 => ?_
    refine in1n rfl (by decide) fun H4 s4 => ?_
    refine in1n rfl (by decide) fun H5 s5 => ?_
    refine in1n rfl (by decide) fun H6 s6 => ?_
    refine in1n rfl (by decide) fun H7 s7 => ?_
    exact ⟨Nat.zero_le _, fun l nl => k l _ (((((((s1.trans s2).trans s3).trans s4).trans s5).trans s6).trans s7).free nl) (((((((s1.trans s2).trans s3).trans s4).trans s5).trans s6).trans s7).trans (Same.new nl)) (by rw [upd_same]; rfl)⟩
  | 10, _ =>
    refine in1n rfl (by decide) fun H1 s1 => ?_
    refine in3n rfl (by decide) fun H2 s2 => ?_
    refine in1n rfl (by decide) fun H3 s3 => ?_
    refine in1n rfl (by decide) fun H4 s4 => ?_
    refine in1n rfl (by decide) fun H5 s5 => ?_
    refine in1n rfl (by decide) fun H6 s6 => ?_
    refine in1n rfl (by decide) fun H7 s7 => ?_
    exact ⟨Nat.zero_le _, fun l nl => k l _ (((((((s1.trans s2).trans s3).trans s4).trans s5).trans s6).trans s7).free nl) (((((((s1.trans s2).trans s3).trans s4).trans s5).trans s6).trans s7).trans (Same.new nl)) (by rw [upd_same]; rfl)⟩
  | j + 11, z => exact absurd z (by omega)
end
end K00
namespace K00
open PySem PySem.Spec PyProof.Rows L2 Tc
theorem pe_wk {X : Cx} {e : Expr} {t u : TE} (h : PE X e u) (k : ∀ σ H Q, t σ H Q → u σ H Q) : PE X e t := ⟨fun pins s σ H Q I z => h.run pins s σ H Q I (k _ _ _ z)⟩
def spClsA (K : PySem.W.Frag) (a : Addr) (cls : Value) (d : Option Addr) : Sp := fun vs H Q _ => ∃ i : Nat, vs = [.ref a] ∧ i < 11 ∧ cls = .ref (He.ga K (kindN i)) ∧ DictAt H d ∧
  ∀ l H', H l = none → Same H H' → H' l = some (.lst [.str (kindN i)]) → Q (.ref l) H'
def spFieldsA (K : PySem.W.Frag) (a : Addr) (cls : Value) (d : Option Addr) : Sp := fun vs H Q _ => ∃ (i : Nat) (x y z : V), vs = [.int i, .ref a] ∧ i < 11 ∧ cls = .ref (He.ga K (kindN i)) ∧ Flds H i x y z d ∧
  ∀ l H', H l = none → Same H H' → H' l = some (.lst ([x, y, z].take (sizesN i))) → Q (.ref l) H'
def spOne : Sp := fun vs H Q _ => ∃ (i : Nat) (x y z : V), vs = [.int i, x, y, z] ∧ i < 11 ∧
  ∀ tp l1 l2 H', H tp = none → H l1 = none → H l2 = none → Same H H' → H' tp = some (.tup [.ref l1, .ref l2]) → H' l1 = some (.lst [.str (kindN i)]) → H' l2 = some (.lst ([x, y, z].take (sizesN i))) → Q (.ref tp) H'
theorem flds_same {H H' : Hp} {i : Nat} {x y z : V} {d : Option Addr} (h : Flds H i x y z d) (s : Same H H') : Flds H' i x y z d := by
  rcases h with h | ⟨h, dd, e, q⟩
  · exact .inl h
  · exact .inr ⟨h, dd, e, s dd _ q⟩
theorem flds_dict {H : Hp} {i : Nat} {x y z : V} {d : Option Addr} (h : Flds H i x y z d) : DictAt H d := by
  rcases h with h | ⟨h, dd, e, q⟩
  · exact .inl h.2
  · exact .inr ⟨dd, _, e, q⟩
section
variable {P : Program} {w : World} {K : PySem.W.Frag} {mg : Str → Option Value} {base : Heap}
theorem c_law_one (T : TX K mg) : Callee P w K mg base CX0 5 "_law_one" ["kind", "one", "two", "three"] spOne := by
  obtain ⟨fd, F⟩ := F_law_one T
  refine callee_mk F (g_law_one T) (fun _ _ _ _ _ _ us hl => match us, hl with | [_, _, _, _], _ => rfl) ?_
  refine F.ok sc_law_one (fun vs H Q E h => by obtain ⟨i, x, y, z, rfl, _⟩ := h; rfl) fun cdv A outer s H vs Q E hr h => ?_
  obtain ⟨i, x, y, z, rfl, hi, k⟩ := h
  refine ⟨_, pss_cons (ps_set (i := 4) sc_law_one.nd rfl (Or.inl rfl) pe_non)
    (pss_cons (ps_try_as (i := 5) (Wout := fun _ _ _ _ => False) (c := .ref (He.ga K "TreeError")) rfl rfl sc_law_one.nd rfl rfl ⟨by rfl, by decide, .inl (g_TreeError T)⟩ (fun _ _ ⟨_, _, _, _, _, _, _, _, _, _, _, _, _, _, _, _, z⟩ => z.elim)
      (fun W pn xe tk _ => pss_one (ps_expr (pe_fX (c_law_fall T) hr tk (pa_cons (pv 0) (pa_cons (pv 1) (pa_cons (pv 2) (pa_cons (pv 3) pa_nil)))))))
      (fun a oe cls d pn hz hf => pss_one (ps_if (pt_val (pe_callB (r := rIsX K a cls d) (call_isX ⟨oe, List.mem_cons_self, hz, hf⟩) (by rfl) (g_isinstance T) PyProof.Rows.boot_isinstance (pa_cons (pv 5) (pa_cons (pe_bltn (v := .ty "ValueError") (by rfl) (g_ValueError T) PyProof.Rows.Boot.«ValueError» rfl) pa_nil))))
        (pss_one (ps_set (i := 4) sc_law_one.nd rfl (Or.inl rfl) (pe_tup (pa_cons
          (pe_wk (t := tCallS (spClsA K a cls d) (fun _ => E0) (tCons (tVar 5) tNil)) (pe_g (j := 4) (pn := [(a, oe)]) (c_law_classes T) ⟨hr.dp, hr.un⟩ trivial (fun q hq => List.mem_singleton.mp hq ▸ List.mem_cons_self) (pa_cons (pv 5) pa_nil))
            fun σ H Q h => by
              obtain ⟨v, hv, i, e0, hi, rfl, hd, k⟩ := h
              exact ⟨v, hv, a, oe, d, i, e0, hi, List.mem_singleton.mpr rfl, hz, hf, hd, fun l H' n s e => k l H' n s (by rw [e, if_pos (Nat.zero_le _)])⟩)
          (pa_cons
          (pe_wk (t := tCallS (spFieldsA K a cls d) (fun _ => E0) (tCons (tVar 0) (tCons (tVar 5) tNil))) (pe_g (j := 4) (pn := [(a, oe)]) (c_law_fields T) ⟨hr.dp, hr.un⟩ trivial (fun q hq => List.mem_singleton.mp hq ▸ List.mem_cons_self) (pa_cons (pv 0) (pa_cons (pv 5) pa_nil)))
            fun σ H Q h => by
              obtain ⟨v, hv, u, hu, i, x, y, z, e, hi, rfl, hd, k⟩ := h
              exact ⟨v, hv, u, hu, a, oe, d, i, x, y, z, e, hi, List.mem_singleton.mpr rfl, hz, hf, hd, k⟩) pa_nil))))) pss_nil)))
    (pss_one (ps_ret (pv 4)))), ?_⟩
  refine ⟨_, rfl, _, rfl, _, rfl, _, rfl, i, x, y, z, rfl, Nat.zero_le _, hi, fun d H1 r => ?_⟩
  obtain ⟨s1, r⟩ := r
  have hF : Flds H1 i x y z d := r
  refine ⟨true, T.kin.caught _ (kind_in hi), fun _ a na => ?_, fun z => nomatch z⟩
  refine ⟨_, rfl, _, .ty "ValueError", _, true, rfl, (kind_err T hi).exc, flds_dict hF, rfl, fun u hu => hu, T.kin.ve _ (kind_in hi), true, rfl, ?_⟩
  refine ⟨_, rfl, i, rfl, hi, rfl, flds_dict hF, fun l1 H2 n1 s2 e1 => ?_⟩
  refine ⟨_, rfl, _, rfl, i, x, y, z, rfl, hi, rfl, flds_same hF s2, fun l2 H3 n2 s3 e2 => ?_⟩
  refine ⟨Nat.le_of_lt (small1000 (by simp)), fun tp n3 => ⟨_, rfl, ?_⟩⟩
  have s13 := s2.trans s3
  exact k tp l1 l2 _ ((s1.trans s13).free n3) (s1.free n1) ((s1.trans s2).free n2) ((s1.trans s13).trans (Same.new n3)) upd_same ((Same.new n3) _ _ (s3 _ _ e1)) ((Same.new n3) _ _ e2)
end
end K00
namespace K00
open PySem PySem.Spec PyProof.Rows L2 Tc
theorem log_small {n : Nat} (h : n < 1000000) : n.log2 ≤ 20 := by
  by_cases z : n = 0
  · rw [z]; decide
  · exact Nat.le_of_lt ((Nat.log2_lt z).mpr (Nat.lt_of_lt_of_le h (by decide)))
/-- what repr asks of data -/
def Shows (d : PyData) : Prop := d.showable = true ∧ d.shown.length ≤ sizeLine ∧ d.depth ≤ 64
theorem shows_int {r : Int} (h0 : 0 ≤ r) (h : r < 1000000) : PyData.showable (.int r) = true ∧ PyData.leavesShort 8 (.int r) = true ∧ PyData.weight (.int r) ≤ 21 := by
  have hn : r.natAbs < 1000000 := by omega
  have hl := log_small hn
  refine ⟨?_, ?_, ?_⟩
  · simp only [PyData.showable, decide_eq_true_eq]; omega
  · have e := int_text_length_le10 (a := r) (k := 7) (by decide) (Nat.lt_of_lt_of_le hn (by decide))
    simp only [PyData.leavesShort, decide_eq_true_eq]
    show (Str.ofString (toString r)).length ≤ 8
    rw [PySem.ofString_length]; exact e
  · simp only [PyData.weight]
    split <;> omega
theorem shows_of {d : PyData} (h1 : d.showable = true) (h2 : d.leavesShort 8 = true) (h3 : d.weight ≤ 1000) (h4 : d.depth ≤ 64) : Shows d :=
  ⟨h1, PyData.shown_fits (Nat.le_refl 8) (by decide) h2 (Nat.le_trans h3 (by decide)), h4⟩
theorem rep_at {K : PySem.W.Frag} {H : Hp} {v : V} (h : ValAt H 3 v) : ∃ d, Dr K H v d ∧ Shows d := by
  rcases h with h | ⟨a, b, r, k, rfl, ha, hb, hk, r0, r1⟩ | ⟨a, b, r, rfl, ha, hb, r0, r1⟩ | ⟨a, rfl, ha⟩
  · have each : ∀ v ∈ flats, ∃ d, Dp K H v d ∧ Shows d := by
      simp only [flats, List.forall_mem_cons, List.not_mem_nil, false_imp_iff, implies_true, and_true]
      exact ⟨⟨_, .non, by decide +kernel, by decide +kernel, by decide +kernel⟩, ⟨_, .bl true, by decide +kernel, by decide +kernel, by decide +kernel⟩, ⟨_, .bl false, by decide +kernel, by decide +kernel, by decide +kernel⟩,
        ⟨_, .int 0, by decide +kernel, by decide +kernel, by decide +kernel⟩, ⟨_, .int (-1), by decide +kernel, by decide +kernel, by decide +kernel⟩, ⟨_, .str "x", by decide +kernel, by decide +kernel, by decide +kernel⟩,
        ⟨_, .str "", by decide +kernel, by decide +kernel, by decide +kernel⟩, ⟨_, .int (10 ^ 40), by decide +kernel, by decide +kernel, by decide +kernel⟩⟩
    obtain ⟨d, h1, h2⟩ := each v h
    exact ⟨d, .inl h1, h2⟩
  · obtain ⟨i1, i2, i3⟩ := shows_int r0 r1
    have eb : Dp K H (.ref b) (.list []) := .lst (SqL.of hb) .nil
    have lt : ∀ k : Nat, DpAll K H (List.replicate k later) (List.replicate k (.str "later")) := fun k => by
      induction k with
      | zero => exact .nil
      | succ k ih => exact .cons (.str _) ih
    refine ⟨.list (.int r :: .list [] :: List.replicate k (.str "later")), .inl (.lst (SqL.of ha) (.cons (.int r) (.cons eb (lt k)))), ?_⟩
    have w : (Str.ofString "later").cps.size = 5 := by decide +kernel
    have lv : PyData.leavesShort 8 (.str "later") = true := by decide +kernel
    match k, hk with
    | 0, _ => exact shows_of (by simp only [List.replicate, PyData.showable, PyData.showableAll] at i1 ⊢; rw [i1]; rfl) (by simp only [List.replicate, PyData.leavesShort, PyData.leavesShortAll] at i2 ⊢; rw [i2]; rfl) (by simp only [List.replicate, PyData.weight, PyData.weightAll] at i3 ⊢; omega) (by simp only [List.replicate, PyData.depth, PyData.depthAll]; decide)
    | 1, _ => exact shows_of (by simp only [List.replicate, PyData.showable, PyData.showableAll] at i1 ⊢; rw [i1]; rfl) (by simp only [List.replicate, PyData.leavesShort, PyData.leavesShortAll] at i2 lv ⊢; rw [i2, lv]; rfl) (by simp only [List.replicate, PyData.weight, PyData.weightAll, w] at i3 ⊢; omega) (by simp only [List.replicate, PyData.depth, PyData.depthAll]; decide)
    | 2, _ => exact shows_of (by simp only [List.replicate, PyData.showable, PyData.showableAll] at i1 ⊢; rw [i1]; rfl) (by simp only [List.replicate, PyData.leavesShort, PyData.leavesShortAll] at i2 lv ⊢; rw [i2, lv]; rfl) (by simp only [List.replicate, PyData.weight, PyData.weightAll, w] at i3 ⊢; omega) (by simp only [List.replicate, PyData.depth, PyData.depthAll]; decide)
    | 3, _ => exact shows_of (by simp only [List.replicate, PyData.showable, PyData.showableAll] at i1 ⊢; rw [i1]; rfl) (by simp only [List.replicate, PyData.leavesShort, PyData.leavesShortAll] at i2 lv ⊢; rw [i2, lv]; rfl) (by simp only [List.replicate, PyData.weight, PyData.weightAll, w] at i3 ⊢; omega) (by simp only [List.replicate, PyData.depth, PyData.depthAll]; decide)
    | k + 4, z => exact absurd z (by omega)
  · obtain ⟨i1, i2, i3⟩ := shows_int r0 r1
    have w : (Str.ofString "a").cps.size = 1 := by decide +kernel
    have lv : PyData.leavesShort 8 (.str "a") = true := by decide +kernel
    refine ⟨.tuple [.str "a", .tuple [.int r]], .inl (.tup (SqT.of ha) (.cons (.str _) (.cons (.tup (SqT.of hb) (.cons (.int r) .nil)) .nil))), shows_of ?_ ?_ ?_ ?_⟩
    · simp only [PyData.showable, PyData.showableAll] at i1 ⊢; rw [i1]; rfl
    · simp only [PyData.leavesShort, PyData.leavesShortAll] at i2 lv ⊢; rw [i2, lv]; rfl
    · simp only [PyData.weight, PyData.weightAll, w] at i3 ⊢; omega
    · simp only [PyData.depth, PyData.depthAll]; decide
  · exact ⟨.dict [(.str "k", .int 1)], .inr ⟨a, _, _, rfl, ha, rfl, rfl⟩, by decide +kernel, by decide +kernel, by decide +kernel⟩
end K00
namespace K00
open PySem PySem.Spec PyProof.Rows L2 Tc
theorem ValAt.mono {H : Hp} {m n : Nat} {v : V} (h : ValAt H m v) (l : m ≤ n) : ValAt H n v := by
  rcases h with h | ⟨a, b, r, k, rfl, ha, hb, hk, h⟩ | h | h
  · exact .inl h
  · exact .inr (.inl ⟨a, b, r, k, rfl, ha, hb, Nat.le_trans hk l, h⟩)
  · exact .inr (.inr (.inl h))
  · exact .inr (.inr (.inr h))
abbrev lstV (r : Int) (b : Addr) (k : Nat) : List V := .int r :: .ref b :: List.replicate k later
theorem app_val {H : Hp} {m k : Nat} {a b : Addr} {r : Int} {y : V} (h : ValAt H m y) (ha : H a = some (.lst (lstV r b k))) : ValAt (upd H a (.lst (lstV r b k ++ [later]))) (m + 1) y := by
  rcases h with h | ⟨a2, b2, r2, k2, rfl, ha2, hb2, hk, h⟩ | ⟨a2, b2, r2, rfl, ha2, hb2, h⟩ | ⟨a2, rfl, ha2⟩
  · exact .inl h
  · have nb : b2 ≠ a := ne_of hb2 ha (by intro z; cases z)
    refine .inr (.inl ?_)
    by_cases z : a2 = a
    · subst z
      rw [ha] at ha2
      have q : lstV r b k = V.int r2 :: .ref b2 :: List.replicate k2 later := HO.lst.inj (Option.some.inj ha2)
      have ek : k = k2 := by
        have q0 := congrArg List.length q
        simpa using q0
      injection q with q1 q2
      injection q2 with q3 q4
      have e1 : r = r2 := V.int.inj q1
      have e2 : b = b2 := V.ref.inj q3
      subst ek e1 e2
      exact ⟨a2, b, r, k + 1, rfl, by rw [upd_same, List.replicate_succ']; rfl, by rw [upd_ne nb]; exact hb2, by omega, h⟩
    · exact ⟨a2, b2, r2, k2, rfl, by rw [upd_ne z]; exact ha2, by rw [upd_ne nb]; exact hb2, by omega, h⟩
  · exact .inr (.inr (.inl ⟨a2, b2, r2, rfl, by rw [upd_ne (ne_of ha2 ha (by intro z; cases z))]; exact ha2, by rw [upd_ne (ne_of hb2 ha (by intro z; cases z))]; exact hb2, h⟩))
  · exact .inr (.inr (.inr ⟨a2, rfl, by rw [upd_ne (ne_of ha2 ha (by intro z; cases z))]; exact ha2⟩))
theorem app_pen {H : Hp} {k : Nat} {a b p : Addr} {r : Int} (h : PenAt H p) (ha : H a = some (.lst (lstV r b k))) : PenAt (upd H a (.lst (lstV r b k ++ [later]))) p := by
  obtain ⟨c, ns, x, d, n, f, e1, e2, q⟩ := h
  refine ⟨c, ns, x, d, n, f, by rw [upd_ne (ne_of e1 ha (by intro z; cases z))]; exact e1, ?_, q⟩
  rw [upd_ne (ne_of e2 ha fun z => ?_)]
  · exact e2
  · have e3 : ns.map V.int = lstV r b k := by injection z
    match ns, e3 with
    | [], z => cases z
    | [_], z => injection z with _ z2; cases z2
    | _ :: _ :: _, z => injection z with _ z2; injection z2 with z3; cases z3
theorem ty_list {K : PySem.W.Frag} {H : Hp} {m : Nat} {v : V} (h : ValAt H m v) : (∃ t, TyX K H v t ∧ PySem.W.kitOne K t (.type "list") = some false) ∨
    ∃ (a b : Addr) (r : Int) (k : Nat), v = .ref a ∧ H a = some (.lst (lstV r b k)) ∧ k ≤ m ∧ TyX K H v (.type "list") ∧ PySem.W.kitOne K (.type "list") (.type "list") = some true := by
  rcases h with h | ⟨a, b, r, k, rfl, ha, _, hk, _⟩ | ⟨a, b, r, rfl, ha, _⟩ | ⟨a, rfl, ha⟩
  · refine .inl ?_
    have n1 : PySem.W.kitOne K (.type "NoneType") (.type "list") = some false := kit_ty (by decide +kernel)
    have n2 : PySem.W.kitOne K (.type "bool") (.type "list") = some false := kit_ty (by decide +kernel)
    have n3 : PySem.W.kitOne K (.type "int") (.type "list") = some false := kit_ty (by decide +kernel)
    have n4 : PySem.W.kitOne K (.type "str") (.type "list") = some false := kit_ty (by decide +kernel)
    have each : ∀ v ∈ flats, ∃ t, TyX K H v t ∧ PySem.W.kitOne K t (.type "list") = some false := by
      simp only [flats, List.forall_mem_cons, List.not_mem_nil, false_imp_iff, implies_true, and_true]
      exact ⟨⟨_, .base .non, n1⟩, ⟨_, .base (.bl _), n2⟩, ⟨_, .base (.bl _), n2⟩, ⟨_, .base (.int _), n3⟩, ⟨_, .base (.int _), n3⟩, ⟨_, .base (.str _), n4⟩, ⟨_, .base (.str _), n4⟩, ⟨_, .base (.int _), n3⟩⟩
    exact each v h
  · exact .inr ⟨a, b, r, k, rfl, ha, hk, .base (.lst ha), kit_ty (by decide +kernel)⟩
  · exact .inl ⟨_, .base (.tup ha), kit_ty (by decide +kernel)⟩
  · exact .inl ⟨_, .base (.dK ha), kit_ty (by decide +kernel)⟩
theorem val_ne {H : Hp} {m : Nat} {v : V} {l : Addr} (h : ValAt H m v) (n : H l = none) : v ≠ .ref l := by
  rintro rfl
  rcases h with h | ⟨a, b, r, k, e, ha, _⟩ | ⟨a, b, r, e, ha, _⟩ | ⟨a, e, ha⟩
  · simp [flats] at h
  · cases e; rw [n] at ha; cases ha
  · cases e; rw [n] at ha; cases ha
  · cases e; rw [n] at ha; cases ha
def namesV : List V := [.str "BadText", .str "BadName", .str "BadNumber", .str "BadRow", .str "NoName", .str "TakenName"] ++ [.str "Unlike", .str "TooMany", .str "NotKept", .str "NothingToUndo", .str "NothingToRedo"]
def sizesV : List V := [.int 2, .int 1, .int 2, .int 2, .int 1, .int 1, .int 1, .int 3, .int 2, .int 0, .int 0]
theorem by11 {p : Nat → Prop} (h0 : p 0) (h1 : p 1) (h2 : p 2) (h3 : p 3) (h4 : p 4) (h5 : p 5) (h6 : p 6) (h7 : p 7) (h8 : p 8) (h9 : p 9) (h10 : p 10) {i : Nat} (h : i < 11) : p i :=
  match i, h with
  | 0, _ => h0 | 1, _ => h1 | 2, _ => h2 | 3, _ => h3 | 4, _ => h4 | 5, _ => h5 | 6, _ => h6 | 7, _ => h7 | 8, _ => h8 | 9, _ => h9 | 10, _ => h10
  | j + 11, z => absurd z (by omega)
theorem names_at {i : Nat} (h : i < 11) : atI namesV ((0 : Int) + (i : Int)) = some (.str (kindN i)) := by
  refine at_of (j := i) (by omega) ?_
  exact by11 (p := fun i => namesV[i]? = some (.str (kindN i))) rfl rfl rfl rfl rfl rfl rfl rfl rfl rfl rfl h
theorem sizes_at {i : Nat} (h : i < 11) : atI sizesV ((0 : Int) + (i : Int)) = some (.int (sizesN i : Nat)) := by
  refine at_of (j := i) (by omega) ?_
  exact by11 (p := fun i => sizesV[i]? = some (.int (sizesN i : Nat))) rfl rfl rfl rfl rfl rfl rfl rfl rfl rfl rfl h
theorem sizes_le {i : Nat} (h : i < 11) : sizesN i ≤ 3 := by11 (p := fun i => sizesN i ≤ 3) (by decide) (by decide) (by decide) (by decide) (by decide) (by decide) (by decide) (by decide) (by decide) (by decide) (by decide) h
theorem cut_due {x y z : V} {n : Nat} (h : n ≤ 3) : cutV [x, y, z] none (some (n : Int)) = [x, y, z].take n := by
  unfold cutV
  rw [HT.sIx_none, HT.sIx_nat]
  show (List.drop 0 [x, y, z]).take (min n 3 - 0) = _
  rw [List.drop_zero, Nat.sub_zero, Nat.min_eq_left h]
theorem told_eq {i : Nat} (h : i < 11) : SeqAt.shaped (.list [.str (kindN i)]) = true ∧ PyData.eqv (.list [.str (kindN i)]) (.list [.str (kindN i)]) = true :=
  by11 (p := fun i => SeqAt.shaped (.list [.str (kindN i)]) = true ∧ PyData.eqv (.list [.str (kindN i)]) (.list [.str (kindN i)]) = true) (by decide +kernel) (by decide +kernel) (by decide +kernel) (by decide +kernel) (by decide +kernel) (by decide +kernel)
    (by decide +kernel) (by decide +kernel) (by decide +kernel) (by decide +kernel) (by decide +kernel) h
end K00
namespace K00
open PySem PySem.Spec PyProof.Rows L2 Tc
def spLaw (K : PySem.W.Frag) : Pins → Sp := fun _ vs H Q _ => ∃ (a : Addr) (ns : List Int), vs = [.ref a] ∧ SqL K H a (ns.map V.int) ∧ ns.length ≤ 63 ∧ ∀ H', Q (.bl true) H'
section
variable {P : Program} {w : World} {K : PySem.W.Frag} {mg : Str → Option Value} {base : Heap}
theorem pen_ne {H : Hp} {p l : Addr} {xs : List V} (h : PenAt H p) (e : H l = some (.lst xs)) : l ≠ p := by
  obtain ⟨c, ns, x, d, n, f, e1, _⟩ := h
  exact ne_of e e1 (by intro z; cases z)
theorem le9 {n : Nat} (h : n ≤ 900) : n ≤ sizeLine := Nat.le_of_lt (small1000 (Nat.le_trans h (by decide)))
theorem r_same {v : V} {A B : Prop} (k : B) : if (!decide (v = v)) = true then A else B := by
  rw [if_neg (by simp)]
  exact k
/-- the law's slots -/
abbrev slots (a p l3 l4 : Addr) (k o t th tl du fi va : Option V) : L2.St := [some (.ref a), some (.ref p), some (.ref l3), some (.ref l4), k, o, t, th, tl, du, fi, va]
def Round (p l3 l4 : Addr) (H : Hp) : Prop := PenAt H p ∧ H l3 = some (.lst namesV) ∧ H l4 = some (.lst sizesV)
theorem Round.same {p l3 l4 : Addr} {H H' : Hp} (h : Round p l3 l4 H) (s : Same H H') : Round p l3 l4 H' := ⟨h.1.same s, s _ _ h.2.1, s _ _ h.2.2⟩
def Inner (p l3 l4 q2 r2 : Addr) (L : List V) (j : Nat) (H : Hp) : Prop := Round p l3 l4 H ∧ H q2 = some (.lst L) ∧ H r2 = some (.lst L) ∧ ∀ y ∈ L, ValAt H j y ∧ y ≠ .ref q2 ∧ y ≠ .ref r2
theorem Inner.same {p l3 l4 q2 r2 : Addr} {L : List V} {j : Nat} {H H' : Hp} (h : Inner p l3 l4 q2 r2 L j H) (s : Same H H') : Inner p l3 l4 q2 r2 L j H' :=
  ⟨h.1.same s, s _ _ h.2.1, s _ _ h.2.2.1, fun y hy => ⟨(h.2.2.2 y hy).1.same s, (h.2.2.2 y hy).2⟩⟩
theorem Inner.up {p l3 l4 q2 r2 : Addr} {L : List V} {j k : Nat} {H : Hp} (h : Inner p l3 l4 q2 r2 L j H) (l : j ≤ k) : Inner p l3 l4 q2 r2 L k H := ⟨h.1, h.2.1, h.2.2.1, fun y hy => ⟨(h.2.2.2 y hy).1.mono l, (h.2.2.2 y hy).2⟩⟩
theorem Inner.app {p l3 l4 q2 r2 a b : Addr} {r : Int} {k : Nat} {L : List V} {j : Nat} {H : Hp} (h : Inner p l3 l4 q2 r2 L j H) (ha : H a = some (.lst (lstV r b k))) (hm : V.ref a ∈ L) : Inner p l3 l4 q2 r2 L (j + 1) (upd H a (.lst (lstV r b k ++ [later]))) := by
  obtain ⟨⟨h1, h2, h3⟩, h4, h5, h6⟩ := h
  obtain ⟨_, n1, n2⟩ := h6 _ hm
  refine ⟨⟨app_pen h1 ha, ?_, ?_⟩, ?_, ?_, fun y hy => ⟨app_val (h6 y hy).1 ha, (h6 y hy).2⟩⟩
  · rw [upd_ne (ne_of h2 ha (by intro z; injection z with z; injection z with z _; cases z))]; exact h2
  · rw [upd_ne (ne_of h3 ha (by intro z; injection z with z; injection z with _ z; injection z with z _; cases z))]; exact h3
  · rw [upd_ne (fun z => n1 (by rw [z]))]; exact h4
  · rw [upd_ne (fun z => n2 (by rw [z]))]; exact h5
theorem c_law (T : TX K mg) {fd : FuncData} (F : Fun K "law" "law" s_law (He.ga K "law") fd) : FnG P w K mg base CX0 Quiet 6 (He.ga K "law") fd ["script"] (spLaw K) := by
  refine funG (calm := true) F sc_law (fun _ q _ => q.1) (fun pn vs H Q E h => by obtain ⟨a, ns, rfl, _⟩ := h; rfl) fun cdv pn A outer s H vs Q E qu hr h => ?_
  obtain ⟨a, ns, rfl, hS, hns, kk⟩ := h
  have hR : Room 5 (cxG true pn CX0 P w K mg base ["script", "pen", "names", "sizes", "kind", "one", "two", "three", "told", "due", "field", "value"] "law" (defScope s_law) (He.ga K "law") cdv A outer s H E).A := ⟨qu.1, hr.dp, hr.un⟩
  have hu : (cxG true pn CX0 P w K mg base ["script", "pen", "names", "sizes", "kind", "one", "two", "three", "told", "due", "field", "value"] "law" (defScope s_law) (He.ga K "law") cdv A outer s H E).A.units + 64 < cLine := hR.units
  have hu2 : (cxG true pn CX0 P w K mg base ["script", "pen", "names", "sizes", "kind", "one", "two", "three", "told", "due", "field", "value"] "law" (defScope s_law) (He.ga K "law") cdv A outer s H E).A.units + 80 < cLine := by have := hR.un; omega
  have hg : (cxG true pn CX0 P w K mg base ["script", "pen", "names", "sizes", "kind", "one", "two", "three", "told", "due", "field", "value"] "law" (defScope s_law) (He.ga K "law") cdv A outer s H E).A.guards = some [] := qu.2
  refine ⟨_, pss_cons (ps_set (i := 1) sc_law.nd rfl (Or.inl rfl) (pe_f (c_law_pen T) hR (pa_cons (pv 0) pa_nil)))
    (pss_cons (ps_set (i := 2) sc_law.nd rfl (Or.inl rfl) (pe_lst (pa_cons pe_str (pa_cons pe_str (pa_cons pe_str (pa_cons pe_str (pa_cons pe_str (pa_cons pe_str pa_nil))))))))
    (pss_cons (ps_set (i := 2) sc_law.nd rfl (Or.inl rfl) (pe_op op_cat (pv 2) (pe_lst (pa_cons pe_str (pa_cons pe_str (pa_cons pe_str (pa_cons pe_str (pa_cons pe_str pa_nil))))))))
    (pss_cons (ps_set (i := 3) sc_law.nd rfl (Or.inl rfl) (pe_lst (pa_cons pe_int (pa_cons pe_int (pa_cons pe_int (pa_cons pe_int (pa_cons pe_int (pa_cons pe_int (pa_cons pe_int (pa_cons pe_int (pa_cons pe_int (pa_cons pe_int (pa_cons pe_int pa_nil)))))))))))))
    (pss_cons (ps_for (passes_of rfl) rfl (pi_range1 (by rfl) (g_range T) (pa_cons pe_int pa_nil)) (pg_name (i := 4) sc_law.nd rfl (Or.inl rfl))
      (pss_cons (ps_par3 (i := 5) (j := 6) (l := 7) rfl sc_law.nd rfl rfl rfl (by decide) (by decide) (by decide) rfl rfl rfl (pa_cons (pe_f (c_law_value T) hR (pa_cons (pv 1) pa_nil)) (pa_cons (pe_f (c_law_value T) hR (pa_cons (pv 1) pa_nil)) (pa_cons (pe_f (c_law_value T) hR (pa_cons (pv 1) pa_nil)) pa_nil))) (by rfl))
      (pss_cons (ps_set (i := 8) sc_law.nd rfl (Or.inl rfl) (pe_f (c_law_one T) hR (pa_cons (pv 4) (pa_cons (pv 5) (pa_cons (pv 6) (pa_cons (pv 7) pa_nil))))))
      (pss_cons (ps_if (pw_or (pt_cmpR op_isN (pv 8) pe_non (nomark _)) (pw_or1 (pt_cmpR (op_neD hu) (pe_ix ix_seq (pv 8) pe_int (fun _ _ => rfl)) (pe_lst (pa_cons (pe_ix ix_list (pv 2) (pv 4) (fun _ _ => rfl)) pa_nil)) (nomark _)))).pt (pss_one (ps_ret pe_bl)) pss_nil)
      (pss_cons (ps_set (i := 9) sc_law.nd rfl (Or.inl rfl) (pe_slice sl_list (pe_lst (pa_cons (pv 5) (pa_cons (pv 6) (pa_cons (pv 7) pa_nil)))) po_none (po_some (pe_ix ix_list (pv 3) (pv 4) (fun _ _ => rfl)))))
      (pss_cons (ps_if (pt_cmpR op_ne (pe_callB call_len_seq (by rfl) (g_len T) PySem.boot_len (pa_cons (pe_ix ix_seq (pv 8) pe_int (fun _ _ => rfl)) pa_nil)) (pe_callB call_len_seq (by rfl) (g_len T) PySem.boot_len (pa_cons (pv 9) pa_nil)) (nomark _)) (pss_one (ps_ret pe_bl)) pss_nil)
      (pss_one (ps_for (passes_of rfl) rfl (pi_zip (by rfl) (g_zip T) (pa_cons (pe_ix ix_seq (pv 8) pe_int (fun _ _ => rfl)) (pa_cons (pv 9) pa_nil))) (pg_tup rfl (pgs_cons (pg_name (i := 10) sc_law.nd rfl (Or.inl rfl)) (pgs_cons (pg_name (i := 11) sc_law.nd rfl (Or.inl rfl)) pgs_nil)))
        (C8.pss_cut (ps_if (pt_val (pe_callB call_isi (by rfl) (g_isinstance T) PyProof.Rows.boot_isinstance (pa_cons (pv 11) (pa_cons (pe_bltn (v := .ty "list") (by rfl) (g_list T) PyProof.Rows.boot_list rfl) pa_nil)))) (pss_one (ps_expr (pe_bm PySem.F.plainAttrs_list PySem.F.slot_list_append PySem.F.type_list_append mt_append (pv 11) (pa_cons pe_str pa_nil)))) pss_nil)
        (pss_one (ps_if (pt_cmpR op_ne (pe_callB (call_repr hg hu2) (by rfl) (g_repr T) PyProof.Rows.boot_repr (pa_cons (pv 10) pa_nil)) (pe_callB (call_repr hg hu2) (by rfl) (g_repr T) PyProof.Rows.boot_repr (pa_cons (pv 11) pa_nil)) (nomark _)) (pss_one (ps_ret pe_bl)) pss_nil)))))))))))
    (pss_one (ps_ret pe_bl)))))), ?_⟩
  refine ⟨_, rfl, a, ns, rfl, hS, hns, fun p H1 hp n1 s1 => ?_⟩
  refine ⟨le9 (by simp), fun l1 nl1 => ⟨_, rfl, le9 (by simp), fun l2 nl2 => ⟨l1, l2, _, _, rfl, rfl, (Same.new nl2) _ _ upd_same, upd_same, le9 (by simp), fun l3 nl3 => ⟨le9 (by simp), fun l4 nl4 => ?_⟩⟩⟩⟩
  refine ⟨11, rfl, by decide, by decide, for_range (fun _ σ H => ∃ k o t th tl du fi va, σ = slots a p l3 l4 k o t th tl du fi va ∧ Round p l3 l4 H) ⟨none, none, none, none, none, none, none, none, rfl, hp.same ((Same.new nl1).trans ((Same.new nl2).trans ((Same.new nl3).trans (Same.new nl4)))), (Same.new nl4) _ _ upd_same, upd_same⟩ ?_ fun _ H' _ => kk H'⟩
  rintro i σ H3 hi ⟨k, o, t, th, tl, du, fi, va, rfl, hp3, hn3, hs3⟩
  have hi' : i < 11 := hi
  refine ⟨_, rfl, p, rfl, hp3, fun v1 H4 hv1 hp4 b4 => ⟨_, rfl, p, rfl, hp4, fun v2 H5 hv2 hp5 b5 => ⟨_, rfl, p, rfl, hp5, fun v3 H6 hv3 hp6 b6 => ⟨v1, v2, v3, rfl, ?_⟩⟩⟩⟩
  have b : But p H3 H6 := (b4.trans b5).trans b6
  have R6 : Round p l3 l4 H6 := ⟨hp6, b _ _ (pen_ne hp3 hn3) hn3, b _ _ (pen_ne hp3 hs3) hs3⟩
  have hv : ∀ y ∈ [v1, v2, v3], ValAt H6 0 y := by
    simp only [List.forall_mem_cons, List.not_mem_nil, false_imp_iff, implies_true, and_true]
    exact ⟨(hv1.but hp4 b5).but hp5 b6, hv2.but hp5 b6, hv3⟩
  clear hv1 hv2 hv3 b4 b5 b6 b hp3 hn3 hs3 hp4 hp5 hp6
  refine ⟨_, rfl, _, rfl, _, rfl, _, rfl, i, v1, v2, v3, by rw [Int.zero_add]; rfl, hi', fun tp q1 q2 H7 ntp nq1 nq2 s7 etp eq1 eq2 => ?_⟩
  have R7 := R6.same s7
  refine ⟨_, rfl, rfl, _, rfl, iteF ?_⟩
  refine ⟨_, rfl, .inr (.inl ⟨tp, _, 0, .ref q1, rfl, rfl, SqT.of etp, rfl, _, rfl, _, rfl, l3, namesV, _, _, rfl, rfl, SqL.of R7.2.1, names_at hi', le9 (by simp), fun q nq => ?_⟩)⟩
  refine ⟨_, _, .lst (SqL.of ((Same.new nq) _ _ eq1)) (.cons (.str _) .nil), .lst (SqL.of upd_same) (.cons (.str _) .nil), (told_eq hi').1, (told_eq hi').1, _, rfl, ?_⟩
  rw [(told_eq hi').2]
  refine iteF ?_
  refine ⟨_, rfl, _, rfl, _, rfl, le9 (by simp), fun r1 nr1 => ⟨_, rfl, _, rfl, l4, sizesV, _, _, rfl, rfl, SqL.of ((Same.new nr1) _ _ ((Same.new nq) _ _ R7.2.2)), sizes_at hi', _, rfl, r1, _, rfl, SqL.of upd_same, fun r2 nr2 => ?_⟩⟩
  rw [cut_due (sizes_le hi')]
  have hL : ([v1, v2, v3].take (sizesN i)).length ≤ 3 := by rw [List.length_take]; exact Nat.min_le_right _ _
  have hm : ∀ y ∈ [v1, v2, v3].take (sizesN i), ValAt H6 0 y := fun y hy => hv y (List.mem_of_mem_take hy)
  generalize [v1, v2, v3].take (sizesN i) = L at hL hm eq2 ⊢
  have s8 : Same H7 (upd (upd (upd H7 q (.lst [.str (kindN i)])) r1 (.lst [v1, v2, v3])) r2 (.lst L)) := (Same.new nq).trans ((Same.new nr1).trans (Same.new nr2))
  have e8 : upd (upd (upd H7 q (.lst [.str (kindN i)])) r1 (.lst [v1, v2, v3])) r2 (.lst L) r2 = some (.lst L) := upd_same
  have n8 : H6 r2 = none := (s7.trans ((Same.new nq).trans (Same.new nr1))).free nr2
  generalize upd (upd (upd H7 q (.lst [.str (kindN i)])) r1 (.lst [v1, v2, v3])) r2 (.lst L) = H8 at s8 e8 ⊢
  have I8 : Inner p l3 l4 q2 r2 L 0 H8 := ⟨R7.same s8, s8 _ _ eq2, e8, fun y hy => ⟨((hm y hy).same s7).same s8, val_ne (hm y hy) nq2, val_ne (hm y hy) n8⟩⟩
  have t8 := s8 _ _ etp
  refine ⟨_, rfl, .inr (.inl ⟨tp, _, 1, .ref q2, rfl, rfl, SqT.of t8, rfl, q2, L, rfl, .inl (SqL.of I8.2.1), _, rfl, r2, L, rfl, .inl (SqL.of I8.2.2.1), rfl, _, rfl, r_same ?_⟩)⟩
  refine ⟨_, rfl, .inr (.inl ⟨tp, _, 1, .ref q2, rfl, rfl, SqT.of t8, rfl, _, rfl, q2, r2, L, L, rfl, SqL.of I8.2.1, SqL.of I8.2.2.1, ?_⟩)⟩
  refine RZ.for_zipL rfl (fun j σ H => ∃ k o t th tl du fi va, σ = slots a p l3 l4 k o t th tl du fi va ∧ Inner p l3 l4 q2 r2 L j H) ⟨_, _, _, _, _, _, _, _, rfl, I8⟩ (fun _ _ _ ⟨_, _, _, _, _, _, _, _, _, h⟩ => ⟨SqL.of h.2.1, SqL.of h.2.2.1⟩) ?_
    fun _ _ ⟨k, o, t, th, tl, du, fi, va, e, h⟩ => ⟨k, o, t, th, tl, du, fi, va, e, h.1⟩
  rintro j x y T σ H9 hx hy ⟨k, o, t, th, tl, du, fi, va, rfl, h9⟩ nT
  rw [hx] at hy
  cases hy
  have hj : j < L.length := (List.getElem?_eq_some_iff.mp hx).1
  have mx : x ∈ L := List.mem_of_getElem? hx
  refine ⟨T, [x, x], rfl, SqT.of upd_same, rfl, x, [x], rfl, x, [], rfl, rfl, ?_⟩
  have h10 := h9.same (Same.new (o := .tup [x, x]) nT)
  generalize upd H9 T (.tup [x, x]) = H10 at h10 ⊢
  refine ⟨fun σ' H' => σ' = slots a p l3 l4 k o t th tl du (some x) (some x) ∧ Inner p l3 l4 q2 r2 L (j + 1) H', ?_, ?_⟩
  · rcases ty_list (K := K) (h10.2.2.2 x mx).1 with ⟨ty, h1, h2⟩ | ⟨a2, b2, r, k2, e, ha, hk2, h1, h2⟩
    · exact ⟨_, rfl, x, .ty "list", ty, _, false, rfl, .ty _, h1, h2, false, rfl, iteF ⟨rfl, h10.up (Nat.le_succ j)⟩⟩
    · subst e
      refine ⟨_, rfl, _, .ty "list", _, _, true, rfl, .ty _, h1, h2, true, rfl, iteT ⟨_, rfl, .inl ⟨rfl, _, SqL.of ha⟩, a2, _, _, rfl, rfl, ha, ?_, rfl, h10.app ha mx⟩⟩
      exact small1000 (by simp only [List.length_cons, List.length_replicate]; omega)
  · rintro σ' H' ⟨rfl, h11⟩
    obtain ⟨d, hd, s1, s2, s3⟩ := rep_at (K := K) ((h11.2.2.2 x mx).1.mono (by omega : j + 1 ≤ 3))
    exact ⟨_, rfl, x, d, rfl, hd, s1, s2, s3, _, rfl, x, d, rfl, hd, s1, s2, s3, rfl, _, rfl, r_same ⟨k, o, t, th, tl, du, _, _, rfl, h11⟩⟩
end
end K00
namespace K00
open PySem PySem.Spec PyProof.Rows L2 Tc
theorem last {w : World} {K : PySem.W.Frag} {h : Heap} {mg : Str → Option Value} {f : Addr} {l : PySem.W.OpenLaw} (X : K.In h) (G : h.Ns mainGlobals mg) (hfa : mg ("law" : Str) = some (.ref f)) (c : SaysZ fa fn tf ex h K) : LawG l w K CX0 6 63 "script" mg f h := by
  have T : TX K mg := txt_of X G c.d c.more
  obtain ⟨fd, F⟩ := F_law T
  have e := hfa.symm.trans (g_law T)
  cases e
  refine ⟨fd, [], spLaw K, fun p hp => (nomatch hp), fun p hp => (nomatch hp), fun p hp => (nomatch hp), ?_, ?_, fun base _ _ _ => c_law T F⟩
  · intro s u
    obtain ⟨oc, od, kV, doc, pm, an, cdv, ct, osl, rfl, lk, hcd⟩ := F.ex
    exact .of_eq rfl
  · intro H a ns E
    exact ⟨a, ns, rfl, E.at_, E.few, fun _ => rfl⟩
end K00
namespace K00
open PySem PySem.Spec PyProof.Rows L2 Tc
abbrev R : PySem.W.OpenRow := PySem.W.OpenLaw.row PySem.Challenge.rw_treeclaims_k00_errors_as_told
abbrev hk : PySem.W.Hook := hookZ 5 fa fn tf ex
def ob (s : PySem.W.SharedT) : AlZ := obsZ 5 fa fn tf ex (HandSHeadRun.getT s)
theorem ob_eq (s : PySem.W.SharedT) : ob s = hk.obs s.abs := obsZ_eq (HandSHeadRun.getT_eq s)
def loose0 : List Str := ["TreeError", "BadText", "BadName", "BadNumber", "BadRow", "NoName", "TakenName", "Unlike", "TooMany", "NotKept", "NothingToUndo", "NothingToRedo", "_law_pen", "_law_draw", "_law_pick", "_law_value", "_law_classes", "_law_more_kinds", "_law_fall", "_law_other_fall", "_law_fields", "_law_one"]
def loose : List Str := loose0
theorem run (w : World) : HandSHeadRun.RunEq R (PySem.W.view R.prog [24]) hk ob 30000 loose w := by
  intro os
  kernel_rfl
end K00
open PySem PySem.W PySem.Calls PyProof.Rows
theorem PySem.Challenge.cw_treeclaims_k00_errors_as_told_holds : PySem.Challenge.rw_treeclaims_k00_errors_as_told.Holds := by
  w_on; o_law
  refine HandSHeadRun.head_any (r := OpenLaw.row PySem.Challenge.rw_treeclaims_k00_errors_as_told) (q := view (OpenLaw.row PySem.Challenge.rw_treeclaims_k00_errors_as_told).prog [24]) (H := K00.hk) (ob := K00.ob) (M := 30000) (loose := K00.loose)
    (d := HandSHeadRun.topDef (OpenLaw.row PySem.Challenge.rw_treeclaims_k00_errors_as_told).prog 24) (kwd := []) K00.ob_eq
    (by kernel_rfl) (fun s => by kernel_rfl) K00.run (by kernel_rfl) (by kernel_rfl) (by kernel_rfl) (by rfl) (by first | assumption | decide +kernel) (by decide +kernel) ⟨rfl, rfl, rfl, rfl, rfl, by decide +kernel⟩ ?hw ?hc
  case hw => w_witness2
  case hc =>
    refine Tc.walk_ofG (l := PySem.Challenge.rw_treeclaims_k00_errors_as_told) (n := 63) (k := 6) (x := "script") (CX := fun _ => L2.CX0) rfl (by decide) (by kernel_rfl) ⟨rfl, by decide, by decide⟩ ?F (fun _ _ _ _ _ z => z)
    intro w mg fa h Y G hmg0
    obtain ⟨K, KX, c⟩ := Y
    have hmg : mg ("law" : PySem.Str) = some (.ref fa) := by
      have e : (HandSHeadRun.topDef (OpenLaw.row PySem.Challenge.rw_treeclaims_k00_errors_as_told).prog 24).name = ("law" : PySem.Str) := by kernel_rfl
      rw [← e]
      exact hmg0
    exact ⟨K, KX, K00.last KX G hmg c⟩
