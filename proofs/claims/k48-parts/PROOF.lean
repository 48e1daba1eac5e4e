import PyProof.Rows.All
import Wide.All
import OpenK.AllK
import Wide.FinOn
import KE.KExcIs
import KE.KFromBytes
import HandS.ForMost
import HandS.Exc
import HandS.ExcInit
import HandS.ExcField
import HandS.HotCalls
import HandS.TryOnly
import HandS.WordsExc
import HandS.Lambda
import HandS.EndTab
import HandS.EndBits
import HandS.HeadHook4
import HandS.ExcIs
import PyProof.ReprRoads
import HandS.Head0
import HandS.Head1
import HandS.Head2
import HandS.Style
import HandS.Flow
import HandS.Conv
import HandS.TupAny
import HandS.IsInst
import HandS.Zip
import HandS.Deep
import HandS.Codes
import HandS.Walk
import PyProof.AutoSeq1
import HandS.StrMore
import HandS.Star
import PyProof.Draws
import PyProof.EnumMake
import PySem.Challenge.RW_treeclaims_k48_whole_parts_of_terms
set_option Elab.async false
set_option linter.all false
set_option maxRecDepth 100000
set_option maxHeartbeats 0
/-! Treeclaims: what the layer lacks. Promises of defs that may lean on pinned objects and on what runs around. -/
namespace Tc
open PySem PySem.Spec PyProof.Rows L2
open L2H (RoomH PinOk)

abbrev Pins := List (Addr × Obj)
/-- nothing is handled, no guard stands around -/
def Quiet (A : Around) : Prop := A.handled = none ∧ A.guards = some []
def AnyA (_ : Around) : Prop := True
theorem Quiet.deep {A : Around} (q : Quiet A) (env : Env) : Quiet (A.deeper env) := q
theorem Quiet.one {A : Around} (q : Quiet A) : Quiet A.in1 := q

/-- a def's promise, by the pins that it is handed and what runs around it -/
structure FnG (P : Program) (w : World) (K : PySem.W.Frag) (mg : Str → Option Value) (base : Heap) (CX : CXT) (Γ : Around → Prop) (k : Nat) (f : Addr) (fd : FuncData) (ps : List Str) (sp : Pins → Sp) : Prop where
  many : ∀ pn vs H Q E, sp pn vs H Q E → vs.length = ps.length
  go : ∀ (pn : Pins) (A : Around) (outer : List Env) (s : Shared) (H : Hp) (args : Args) (us : List Value) (vs : List V) (Q : VK) (E : XK), RoomH k A → Γ A → (∀ p ∈ pn, PinOk outer H s p) →
    Env0 P w K mg base A outer s H → BindsTo s fd args (ps.zip us) → Vals vs us → sp pn vs H Q E → codeAny (model P w) A (.call (.ref f) args) (CR CX outer P w H s Q E) s

/-- the body's context -/
def cxG (calm : Bool) (pn : Pins) (CX : CXT) (P : Program) (w : World) (K : PySem.W.Frag) (mg : Str → Option Value) (base : Heap) (N : List Str) (qual : Str) (scope : Scope) (f : Addr) (cd : Value) (A : Around) (outer : List Env) (s : Shared) (H : Hp) (E : XK) : Cx :=
  { cxOf CX P w K mg base N qual scope f cd A outer s H E with calm := calm, pn := pn }

section
variable {CX : CXT} {P : Program} {w : World} {K : PySem.W.Frag} {mg : Str → Option Value} {base : Heap} {N ps : List Str} {qual : Str} {scope : Scope} {f : Addr} {cd : Value} {A : Around} {outer : List Env} {s s1 : Shared} {H : Hp} {E : XK} {us : List Value} {vs : List V} {calm : Bool} {pn : Pins}
/-- from the plain context's state to one with pins, whatever is handled -/
theorem inv_startG (S : FnScope N ps scope) (hd : calm = true → A.handled = none) (hp : ∀ p ∈ pn, PinOk outer H s p) (e0 : Env0 P w K mg base A outer s H) (hl : vs.length = ps.length) (r : Vals vs us)
    (x : InCallC s s.heap.objs.size (bindL (envOfC qual scope s.heap.objs.size f cd).kindOf (ps.zip us) fun _ => none) (cellsFrom (s.heap.objs.size + 1) scope.names []) (bindC (envOfC qual scope s.heap.objs.size f cd).kindOf (ps.zip us) fun _ => none) s1) :
    Inv (cxG calm pn CX P w K mg base N qual scope f cd A outer s H E) [] (start N vs) H s1 := by
  have hk := x.toInCall.keep
  cases pn with
  | nil =>
    cases calm with
    | true => exact inv_start S (hd rfl) e0 hl r x
    | false =>
      have e1 : Env0 P w K mg base { A with handled := none } outer s H := ⟨e0.frames, e0.mod, e0.bs, e0.bsz, e0.funs, e0.frf, e0.hok, e0.bare⟩
      have I := inv_start (A := { A with handled := none }) (CX := CX) (E := E) S rfl e1 hl r x
      obtain ⟨⟨a1, a2, a3, a4, a5, a6, a7, a8, a9, a10, a11, a12, a13, a14, a15, a16, a17, a18⟩, b1, b2, b3, b4, b5, b6, b7, b8, b9, b10⟩ := I
      exact ⟨⟨a1, a2, a3, a4, a5, a6, a7, a8, fun z => (nomatch (show false = true from z)), Around.frames_deeper e0.frames, a11, a12, a13, a14, a15, a16, a17, a18⟩, b1, b2, b3, b4, b5, b6, b7, b8, b9, b10⟩
  | cons p0 pr =>
    have e1 : Env0 P w K mg base { A with handled := none } outer s H := ⟨e0.frames, e0.mod, e0.bs, e0.bsz, e0.funs, e0.frf, e0.hok, e0.bare⟩
    have I := inv_start (A := { A with handled := none }) (CX := CX) (E := E) S rfl e1 hl r x
    obtain ⟨⟨a1, a2, a3, a4, a5, a6, a7, a8, a9, a10, a11, a12, a13, a14, a15, a16, a17, a18⟩, b1, b2, b3, b4, b5, b6, b7, b8, b9, b10⟩ := I
    refine ⟨⟨a1, a2, a3, a4, a5, a6, a7, a8, fun z => hd z, Around.frames_deeper e0.frames, a11, a12, a13, a14, a15, a16, a17, a18⟩, b1, b2, b3, b4, b5, b6, b7, fun q hq => ?_, b9, b10⟩
    have hq2 : q ∈ p0 :: pr := by
      rcases List.mem_append.mp hq with z | z
      · exact z
      · cases z
    have o := hp q hq2
    exact ⟨hk _ _ o.get, o.free, Nat.ne_of_lt (Heap.lt_size o.get), o.nofs, o.nocell⟩
end

/-- THE RULE for such a def -/
theorem fn_ofG {CX : CXT} {P : Program} {w : World} {K : PySem.W.Frag} {mg : Str → Option Value} {base : Heap} {Γ : Around → Prop} {calm : Bool} {k : Nat} {f : Addr} {name qual : Str} {params : Arguments} {body : List Stmt} {scope : Scope} {dV kV doc pm cdv ct oc : Value} {an od : Option Addr}
    {osl : Array (Option Value)} {N ps : List Str} {sp : Pins → Sp} (lk : K.lookup f = some ⟨oc, od, .func (PySem.W.fnOf name qual params body scope dV kV doc pm an cdv ct), osl⟩) (hcd : PySem.W.codeIn K cdv qual = true) (S : FnScope N ps scope)
    (hΓ : ∀ A, Γ A → calm = true → A.handled = none) (many : ∀ pn vs H Q E, sp pn vs H Q E → vs.length = ps.length)
    (hbody : ∀ (pn : Pins) (A : Around) (outer : List Env) (s : Shared) (H : Hp) (vs : List V) (Q : VK) (E : XK), Γ A → RoomH k (A.deeper (envOfC qual scope s.heap.objs.size f cdv)) → sp pn vs H Q E →
      ∃ t, PSs (cxG calm pn CX P w K mg base N qual scope f cdv A outer s H E) body t ∧ t { nx := fun _ H' => Q .non H', rt := Q } (start N vs) H) :
    FnG P w K mg base CX Γ (k + 1) f (PySem.W.fnOf name qual params body scope dV kV doc pm an cdv ct) ps sp := by
  refine ⟨many, fun pn A outer s H args us vs Q E room g pins e0 bind rel want => ?_⟩
  have hl := many _ _ _ _ _ want
  have inK : K.In s.heap := e0.mod.kin.keeps fun b o e => (e0.bs b o e).1
  have lim : s.heap.NoLimit := e0.mod.nolimit.keeps fun b o e => (e0.bs b o e).1
  refine codeAny_call_function room.depth (inK _ _ lk) rfl S.co S.gen rfl (PySem.W.codeRec_of inK hcd) (bind _ _ _ _ ?_)
  have kinds : ∀ y ∈ ps.zip us, scope.names.lookup y.1 = some .local ∨ (scope.names.lookup y.1 = some .cell ∧ ((cellsFrom (s.heap.objs.size + 1) scope.names []).lookup y.1).isSome = true) := by
    rintro ⟨n, v⟩ hy
    have q := S.par n (List.of_mem_zip hy).1
    exact q.elim .inl fun c => .inr ⟨c, PySem.W.cellsFrom_some _ _ _ (.inl c)⟩
  refine wpAny_newFunctionEnv_cells S.kind kinds fun env he s1 x => ?_
  subst he
  obtain ⟨t, ht, hq⟩ := hbody pn A outer s H vs Q E g (room.deeper _) want
  have I : Inv (cxG calm pn CX P w K mg base N qual scope f cdv A outer s H E) [] (start N vs) H s1 := inv_startG S (hΓ A g) pins e0 hl rel x
  refine ⟨lim.keeps x.toInCall.keep, codeAny_func (wpAny_mono (ht.run [] s1 (start N vs) H _ I hq) (fun fl s' hs => ?_) fun e s' z => z)⟩
  cases fl with
  | next => obtain ⟨σ', H', J, q⟩ := hs; exact ⟨.non, H', J.os, J.bare, J.base, J.hok, rfl, q⟩
  | ret u => obtain ⟨v, σ', H', J, rv, q⟩ := hs; exact ⟨v, H', J.os, J.bare, J.base, J.hok, rv, q⟩
  | brk => obtain ⟨_, _, _, q⟩ := hs; exact q.elim
  | cont => obtain ⟨_, _, _, q⟩ := hs; exact q.elim

/-- by the short words of a def -/
theorem funG {P : Program} {w : World} {K : PySem.W.Frag} {mg : Str → Option Value} {base : Heap} {CX : CXT} {Γ : Around → Prop} {calm : Bool} {x qual : Str} {st : Stmt} {f : Addr} {fd : FuncData} {N ps : List Str} {k : Nat} {sp : Pins → Sp} (F : Fun K x qual st f fd) (S : FnScope N ps (defScope st))
    (hΓ : ∀ A, Γ A → calm = true → A.handled = none) (many : ∀ pn vs H Q E, sp pn vs H Q E → vs.length = ps.length)
    (hbody : ∀ (cdv : Value) (pn : Pins) (A : Around) (outer : List Env) (s : Shared) (H : Hp) (vs : List V) (Q : VK) (E : XK), Γ A → RoomH k (A.deeper (envOfC qual (defScope st) s.heap.objs.size f cdv)) → sp pn vs H Q E →
      ∃ t, PSs (cxG calm pn CX P w K mg base N qual (defScope st) f cdv A outer s H E) (defBody st) t ∧ t { nx := fun _ H' => Q .non H', rt := Q } (start N vs) H) : FnG P w K mg base CX Γ (k + 1) f fd ps sp := by
  obtain ⟨oc, od, kV, doc, pm, an, cdv, ct, osl, rfl, lk, hcd⟩ := F.ex
  exact fn_ofG lk hcd S hΓ many fun pn A outer s H vs Q E g hr h => hbody cdv pn A outer s H vs Q E g hr h

/-- a plain promise is one of these -/
theorem FnG.of_ok {P : Program} {w : World} {K : PySem.W.Frag} {mg : Str → Option Value} {base : Heap} {CX : CXT} {Γ : Around → Prop} {k : Nat} {f : Addr} {fd : FuncData} {ps : List Str} {sp : Sp} (F : FnOk P w K mg base CX k f fd ps sp) (hΓ : ∀ A, Γ A → A.handled = none) :
    FnG P w K mg base CX Γ k f fd ps (fun _ => sp) :=
  ⟨fun _ vs H Q E h => F.len vs H Q E h, fun _ A outer s H args us vs Q E r g _ e0 b rv h => F.run A outer s H args us vs Q E ⟨hΓ A g, r.dp, r.un⟩ e0 b rv h⟩

section
variable {X : Cx} {CX : CXT} {Γ : Around → Prop} {k : Nat} {f : Addr} {fd : FuncData} {ps : List Str} {sp : Pins → Sp} {E : L2.St → XK} {x : Str} {q pos : Pos} {e : Expr} {es : List Expr} {t : TA} {pn : Pins}
/-- the callee runs, the pins pn handed on -/
theorem run_fnG {pins : Pins} {σ : L2.St} {H : Hp} {s : Shared} {Q : VK} {us : List Value} {vs : List V} (F : FnG X.prog X.w X.K X.mg X.base CX Γ k f fd ps sp) (hr : RoomH k X.A) (g : Γ X.A) (hpn : ∀ p ∈ pn, p ∈ X.pn) (hb : Binds X.K fd ps [])
    (hx : PassesAt CX X σ (E σ)) (I : Inv X pins σ H s) (r : Vals vs us) (h : sp pn vs H Q (E σ)) : wpAny (model X.prog X.w) X.A (call (.ref f) us) (EP X pins σ Q) X.xe s := by
  have hl : us.length = ps.length := by rw [← r.length]; exact F.many _ _ _ _ _ h
  have b := hb s us I.kIn (by rw [List.append_nil]; exact hl)
  rw [List.append_nil] at b
  have po : ∀ p ∈ pn, PinOk X.stack H s p := fun p hp => by
    obtain ⟨h1, h2, h3, h4, h5⟩ := I.pin p (List.mem_append_left _ (hpn p hp))
    exact ⟨h1, h2, fun hm => (List.mem_cons.mp (I.stkSub p.1 hm)).elim h3 h4, h5⟩
  refine wpAny_call (codeAny_mono (F.go pn X.A X.stack s H ⟨us, []⟩ us vs Q (E σ) hr g po I.env0 b r h) fun r s' hq => ?_)
  match r, hq with
  | .error e, hq => exact hx pins H s e s' I hq
  | .ok (.ret u), hq => exact I.after hq
theorem pe_callG (F : FnG X.prog X.w X.K X.mg X.base CX Γ k f fd ps sp) (hr : RoomH k X.A) (g : Γ X.A) (hpn : ∀ p ∈ pn, p ∈ X.pn) (hg : Gl X x) (hm : X.mg x = some (.ref f)) (hk : PySem.W.keepIn X.K (.ref f) = true) (hb : Binds X.K fd ps [])
    (hx : ∀ σ, PassesAt CX X σ (E σ)) (ha : PA X (e :: es) t) (hdb : (x == ("__debug__" : Str)) = false := by decide) (he : starEach (e :: es) X.env = (false, eval e X.env) :: starEach es X.env := by rfl) (hpl : (backTo pos (starEach es X.env)).any (·.1) = false := by rfl) :
    PE X (.Call (.Name x q) (e :: es) [] pos) (tCallS (sp pn) E t) := by
  refine ⟨fun pins s σ H Q I h => wpAny_Call_Name_kw (ld_glob I hg hm ?_ hdb)⟩
  refine PySem.W.callWith_K (h₀ := X.base) I.ok.mod.kin hk (thn (ha.run pos pins s σ H _ I h) fun us s1 ⟨vs, H1, I1, r, z⟩ => ⟨I1.kIn, ?_⟩) he hpl
  exact run_fnG F hr g hpn hb (hx σ) I1 r z
end
end Tc
namespace Tc
open PySem PySem.Spec PyProof.Rows L2
open L2H (RoomH PinOk)

/-! ### C0.__init__(self, ..) where C0 is an own class over ValueError without one of its own -/
structure BaseC (K : PySem.W.Frag) (C : Addr) : Prop where
  special : PySem.W.specialIn K (.ref C) "__getattribute__" = some (some (.builtin "type.__getattribute__"))
  reads : PySem.W.readsIn K C (.type "type") = true
  finds : PySem.W.findCls K (.ref C) (.type "type") "__init__" = some (.val (.builtin "ValueError.__init__"))
section
variable {X : Cx} {x : Str} {C0 : Addr} {e : Expr} {es : List Expr} {ta : TA} {p1 p2 pos : Pos}
theorem pe_basei {pl : Sem Bool} (hg : Gl X x) (hm : X.mg x = some (.ref C0)) (B : BaseC X.K C0) (ha : PA X (e :: es) ta)
    (hc : eval (.Call (.Attribute (.Name x p1) "__init__" p2) (e :: es) [] pos) X.env = (do
      let o ← eval (.Name x p1) X.env
      standAt p2.atName
      let (f, first) ← holding [o] (getMethod o "__init__" pl)
      callWith pos f first (backTo pos (starEach (e :: es) X.env)) (backToKw pos (keywordEach [] X.env))) := by rfl)
    (he : starEach (e :: es) X.env = (false, eval e X.env) :: starEach es X.env := by rfl) (hpl : (backTo pos (starEach es X.env)).any (·.1) = false := by rfl)
    (hdb : (x == ("__debug__" : Str)) = false := by decide) :
    PE X (.Call (.Attribute (.Name x p1) "__init__" p2) (e :: es) [] pos) (tVeI X.K ta) := by
  refine ⟨fun pins s σ H Q I h => PySem.W.methodCall_KW (ld_glob I hg hm ?_ hdb) hc⟩
  refine PySem.W.method_cls I.kIn B.special (PySem.W.cls_value I.kIn B.reads B.finds rfl ?_)
  refine PyProof.Rows.callWith_method1 (thn (ha.run pos pins _ σ H _ (I.tok _) h) fun us s1 q1 => ?_) he hpl
  obtain ⟨vs, H1, I1, r1, a, C, ws, ev, hl, T, ea, q⟩ := q1
  subst ev
  cases r1 with
  | @cons _ u0 _ ur ra rr =>
    have ez : u0 = Value.ref a := ra
    subst ez
    refine oinit_ok T I1 ea ?_ fun s' J => ⟨.non, H1, J, rfl, q⟩
    have h1 := Paired.length rr
    have h2 := sizeLine_eq
    omega
end

/-! ### an exception without fields is made -/
section
variable {X : Cx} {pins : Pins} {σ : L2.St}
theorem bare_made {H1 H2 : Hp} {Q : XK} {hp hp2 h2 : Heap} {g1 g2 : Array GenState} {d1 d2 : Drawn} {t1 t2 : Nat} {os1 os2 : OsState} {a C : Addr} (T : Raises X (.ref C)) (I1 : Inv X pins σ H1 ⟨hp, g1, d1, t1, os1⟩)
    (ha : hp.objs.size ≤ a) (kp : ∀ b o, hp.get? b = some o → hp2.get? b = some o) (un : Un (frs X.stack) [] (upd H1 a (exo a C none)) H2 hp2 h2) (hok : HOk X.prog X.w H2 h2) (ho : os2 = os1) (hb : AllBare g2)
    (ea : H2 a = some (exo a C none)) (q : Q (.ref C) none (del H2 a)) : MkP X pins σ Q (.ref a) ⟨h2, g2, d2, t2, os2⟩ := by
  obtain ⟨t0, hoe⟩ := exo_at hok ea
  have n1 : H1 a = none := I1.hok.fresh ha
  obtain ⟨G, gy, gn⟩ := restrict h2 fun b => decide (b ≠ a)
  have at_ : ∀ b, b ≠ a → G.get? b = h2.get? b := fun b hb => gy b (decide_eq_true hb)
  have out : G.get? a = none := gn a (by simp)
  have nea : ∀ {b : Addr} {o : Obj}, hp.get? b = some o → b ≠ a := fun {b o} z e => by
    have h1 := Heap.lt_size z
    rw [e] at h1
    exact absurd (Nat.lt_of_lt_of_le h1 ha) (Nat.lt_irrefl _)
  have same : ∀ {b : Addr} {u : Option HO}, b ≠ a → H1 b = u → upd H1 a (exo a C none) b = u := fun {b u} hb n => (upd_ne hb).trans n
  have dl : ∀ {b : Addr} {u : Option HO}, b ≠ a → H2 b = u → del H2 a b = u := fun {b u} hb n => (del_ne hb).trans n
  have nof : ∀ {b : Addr} {u : HO}, H1 b = some u → b ≠ a := fun {b u} z => ne_of_none z n1
  have U : Un (frs X.stack) [] H1 (del H2 a) hp G := by
    constructor
    · intro b o z n hf hx; rw [at_ b (nea z)]; exact un.keep b o (kp b o z) (same (nea z) n) hf hx
    · intro b o z n hf hx; rw [at_ b (nea z)]; exact un.slot b o (kp b o z) (same (nea z) n) hf hx
    · intro b o z n hx; exact dl (nea z) (un.free b o (kp b o z) (same (nea z) n) hx)
    · intro b o z hx; rw [at_ b (nea z)]; exact un.there b o (kp b o z) hx
    · intro b xs z; exact dl (nof z) (un.tups b xs (same (nof z) z))
    · intro b o v z; exact dl (nof z) (un.frzs b o v (same (nof z) z))
    · intro b ps z
      obtain ⟨more, e⟩ := un.tbls b ps (same (nof z) z)
      exact ⟨more, dl (nof z) e⟩
  have hok3 : HOk X.prog X.w (del H2 a) G := fun b o z => by
    have hba : b ≠ a := fun e => by
      rw [e, del_same] at z
      cases z
    rw [del_ne hba] at z
    have noown : ∀ {c : Addr}, H2 c = some (.own b) → c ≠ a := fun {c} hc => at_ne ea hc exo_own
    refine (hok b o z).stay (fun c v hc y => ?_) (fun c hc => dl (noown hc) hc) fun c xs hc => dl (at_ne ea hc exo_tup) hc
    have hca : c ≠ a := hc.elim (fun e => by rw [e]; exact hba) noown
    rw [at_ c hca]
    exact y
  have J : Inv X pins σ (del H2 a) ⟨G, g2, d2, t2, os2⟩ := I1.call' (ch := []) ho U hok3 hb fun b z => absurd z (by simp)
  refine ⟨a, _, _, ⟨G, g2, d2, t2, os2⟩, del H2 a, .ref C, none, rfl, J, fun b o z => ?_, out, hoe, ⟨rfl, rfl⟩, rfl, rfl, del_same, rfl, hb, T, q⟩
  by_cases hba : b = a
  · have z2 : G.get? b = some o := z
    rw [hba, out] at z2
    cases z2
  · exact (at_ b hba).symm.trans z
/-- C(), C's own __init__ keeping sp, no field stored -/
def tMkB (C : Addr) (sp : Sp) : L2.St → Hp → XK → Prop := fun _ H Q => ∀ a, H a = none → sp [.ref a] (upd H a (exo a C none)) (fun v H2 => v = .non ∧ H2 a = some (exo a C none) ∧ Q (.ref C) none (del H2 a)) (fun _ _ _ => False)
theorem pmk_bare {CX : CXT} {x : Str} {C fI : Addr} {k : Nat} {fd : FuncData} {ps : List Str} {sp : Sp} {p pos : Pos} (T : OexC X.K C) (iC : PySem.W.findIn X.K (.ref C) "__init__" = some (some (.ref fI))) (tI : PySem.W.typeIn X.K (.ref fI) = some (.type "function"))
    (F1 : FnOk X.prog X.w X.K X.mg X.base CX k fI fd ps sp) (hr : Room (k + 1) X.A) (hb : Binds X.K fd ps []) (hx : Passes CX X (fun _ _ _ => False)) (hg : Gl X x) (hm : X.mg x = some (.ref C))
    (hdb : (x == ("__debug__" : Str)) = false := by decide) : PMk X (.Call (.Name x p) [] [] pos) (tMkB C sp) := by
  intro pins s σ H Q I h
  obtain ⟨nm, q, N, bs, bm, sn, sub, ab, col, dd, k0, k1, k2, k3, k5, hC, hbm⟩ := T.cls
  refine wpAny_Call_Name_kw (ld_glob I hg hm (PySem.W.callWith_K0 I.kIn T.kC ?_) hdb)
  obtain ⟨hp, g, dr, tk, os⟩ := s
  have fresh : hp.objs.size ≤ hp.objs.size + 1 := Nat.le_succ _
  have hq := h (hp.objs.size + 1) (I.hok.fresh fresh)
  have grow : ∀ b o, hp.get? b = some o → ((hp.push (PySem.W.kdv_tup [])).push (PySem.HandSPX.excO C hp.objs.size)).get? b = some o := fun b o e => Heap.get?_push_of_some _ (Heap.get?_push_of_some _ e)
  have hget : ((hp.push (PySem.W.kdv_tup [])).push (PySem.HandSPX.excO C hp.objs.size)).get? (hp.objs.size + 1) = some (PySem.HandSPX.excO C hp.objs.size) := by heap_get
  have I2 := I.laid (t' := tk) (a := hp.objs.size + 1) (o := exo (hp.objs.size + 1) C none) (h' := (hp.push (PySem.W.kdv_tup [])).push (PySem.HandSPX.excO C hp.objs.size)) grow fresh (exo_ok hget)
  have hl : ([Value.ref (hp.objs.size + 1)] ++ []).length = ps.length := by
    have e := F1.len _ _ _ _ hq
    simpa using e
  have b2 := hb _ [Value.ref (hp.objs.size + 1)] I2.kIn hl
  refine wpAny_call (PySem.HandSPX.call_own F.excBase_ValueError (fun Y => PySem.HandSPX.refsVE_contains Y bm hbm) (I.kIn _ _ hC) (PySem.W.looks_findIn I.kIn iC) (fun self => PySem.W.bind_fn I.kIn self tI) (by rw [sizeLine_eq]; decide)
    (codeAny_mono (F1.run _ X.stack _ _ ⟨[Value.ref (hp.objs.size + 1)], []⟩ ([Value.ref (hp.objs.size + 1)] ++ []) [.ref (hp.objs.size + 1)] _ (fun _ _ _ => False) (hr.make C [] []) (I2.env0.make C [] []) b2 (.cons rfl .nil) hq) fun r s' hq' => ?_))
  match r, hq' with
  | .error er, hq' => exact hx pins σ _ _ er s' I2 hq'
  | .ok (.ret u), hq' =>
    obtain ⟨v, H2, os2, bare2, un2, hok2, rv, ev, ea, q2⟩ := hq'
    subst ev
    obtain ⟨h2, g2, d2, t2, os'⟩ := s'
    exact ⟨rv, bare_made (raises_own T.exC T.tyC) I fresh grow un2 hok2 os2 bare2 ea q2⟩
end

/-! ### the exception that is handled: isinstance, fields -/
/-- a holds an exception of class cls, its own dict d, pinned -/
def HeldAt (X : Cx) (a : Addr) (cls : Value) (d : Option Addr) : Prop := ∃ oe : Obj, (a, oe) ∈ X.pn ∧ Zc cls d oe ∧ ∃ vs, oe.data = .fields vs
/-- its dict, where it has one, is told -/
def DictAt (H : Hp) (d : Option Addr) : Prop := d = none ∨ ∃ (dd : Addr) (fs : List (Str × V)), d = some dd ∧ H dd = some (.xd fs)
/-- isinstance(e, c) -/
def rIsX (K : PySem.W.Frag) (a : Addr) (cls : Value) (d : Option Addr) : List V → Hp → VK → Prop := fun xs H Q => ∃ (D : Addr) (c : V) (cv : Value) (b : Bool), cls = .ref D ∧ L2.ExcC K D ∧ DictAt H d ∧ xs = [.ref a, c] ∧ (∀ u, RelV c u → u = cv) ∧ PySem.W.kitOne K (.ref D) cv = some b ∧ Q (.bl b) H
section
variable {X : Cx} {a : Addr} {cls : Value} {d : Option Addr}
theorem held_inst {pins : Pins} {σ : L2.St} {H : Hp} {s : Shared} {D : Addr} (hh : HeldAt X a (.ref D) d) (I : Inv X pins σ H s) (hd : DictAt H d) : ∃ (oe : Obj) (od : Option Obj), PySem.W.InstAt s.heap a oe D od ∧
    (∀ (dd : Addr) (fs : List (Str × V)), d = some dd → H dd = some (.xd fs) → ∀ n, ∃ m : Option Value, PySem.W.lookIn n (od.getD default) = some m ∧ RelO (fs.lookup n) m ∧ od.isSome = true) := by
  obtain ⟨oe, hm, ⟨h1, h2⟩, vs, hv⟩ := hh
  obtain ⟨hget, _⟩ := I.pin (a, oe) (List.mem_append_left _ hm)
  have nc : PySem.W.notCls oe = true := by unfold PySem.W.notCls; rw [hv] <;> rfl
  rcases hd with hd | ⟨dd, fs, hd, hx⟩
  · refine ⟨oe, none, ⟨hget, h1, nc, ?_⟩, fun dd fs e => ?_⟩
    · rw [h2, hd]
      trivial
    · rw [hd] at e
      cases e
  · obtain ⟨mA, hns, hr⟩ := (show ObjOk X.prog X.w H s.heap dd (.xd fs) from I.hok dd _ hx)
    obtain ⟨od, ho, hl⟩ := lookIn_ns hns
    refine ⟨oe, some od, ⟨hget, h1, nc, ?_⟩, fun dd' fs' e hx' n => ?_⟩
    · rw [h2, hd]
      exact ho
    · rw [hd] at e
      cases e
      rw [hx] at hx'
      cases hx'
      exact ⟨mA n, hl n, hr n, rfl⟩
theorem call_isX (hh : HeldAt X a cls d) : CallR X (.builtin "isinstance") (rIsX X.K a cls d) := by
  intro pins s σ H xs us Q I r h
  obtain ⟨D, c, cv, b, ec, C, hd, rfl, hcv, e, q⟩ := h
  subst ec
  obtain ⟨u1, u2, rfl, r1, r2⟩ := vals2 r
  cases r1
  have e2 := hcv _ r2
  subst e2
  obtain ⟨oe, od, J, _⟩ := held_inst hh I hd
  have hcl : (PySem.W.clsIn X.K D).isSome = true := by
    obtain ⟨cd, hc, _⟩ := PySem.W.any_some C.hd
    rw [hc]
    rfl
  exact PySem.W.kia_one (PySem.W.kitx_exc hcl C.hg C.hk C.hs C.ha C.hn C.ht C.hm) I.kIn J e (fun z => nomatch z) fun tk => ⟨.bl b, H, I.kept (t' := tk) fun _ _ z => z, rfl, q⟩
/-- e.n -/
def tFldX (K : PySem.W.Frag) (a : Addr) (cls : Value) (d : Option Addr) (n : Str) (te : TE) : TE := fun σ H Q => te σ H fun x H1 => x = .ref a ∧ ∃ (D dd : Addr) (fs : List (Str × V)) (v : V), cls = .ref D ∧ L2.ExcC K D ∧ PySem.W.findIn K (.ref D) n = some none ∧
  d = some dd ∧ H1 dd = some (.xd fs) ∧ fs.lookup n = some v ∧ Q v H1
theorem pe_fldX {e : Expr} {te : TE} {pos : Pos} {n : Str} (hh : HeldAt X a cls d) (he : PE X e te) (hb : attributeBase e n X.env (eval e X.env) = eval e X.env := by rfl) : PE X (.Attribute e n pos) (tFldX X.K a cls d n te) := by
  refine ⟨fun pins s σ H Q I h => attr_of hb (thn (he.run pins s σ H _ I h) fun u s1 q1 => ?_)⟩
  obtain ⟨x, H1, I1, rx, ex, D, dd, fs, v, ec, C, hno, ed, ea, l, q⟩ := q1
  subst ex ec
  cases (show u = Value.ref a from rx)
  obtain ⟨oe, od, J, hl⟩ := held_inst hh I1 (.inr ⟨dd, fs, ed, ea⟩)
  obtain ⟨m, hm, hr, hs⟩ := hl dd fs ed ea n
  obtain ⟨ob, hob⟩ := Option.isSome_iff_exists.mp hs
  subst hob
  rw [l] at hr
  obtain ⟨u, hu, ru⟩ := RelO.some_of hr
  subst hu
  exact HandSPX.exc_get I1.kIn J C.hg C.hk C.hs (PySem.W.findObj_own C.hd hno rfl hm) (handed_of ru) ⟨v, H1, I1.tok _, ru, q⟩
end
end Tc
/-! The end of a law whose promise leans on what runs around (no guard stands around: repr). -/
namespace Tc
open PySem PySem.Spec PyProof.Rows L2 LamX
open L2H (RoomH PinOk)

/-- the heap at the law's entry: the tables at T, the script at a (z: as it is tracked) -/
def entryH (T : List Addr) (a : Addr) (z : Option HO) : Hp := fun b => if b ∈ T then some (.tbl #[]) else if b = a then z else none
theorem entry_tab {T : List Addr} {a b : Addr} {z : Option HO} (h : b ∈ T) : entryH T a z b = some (.tbl #[]) := if_pos h
theorem entry_script {T : List Addr} {a : Addr} {z : Option HO} (h : a ∉ T) : entryH T a z a = z := (if_neg h).trans (if_pos rfl)
theorem entry_cases {T : List Addr} {a b : Addr} {z : Option HO} {u : HO} (h : entryH T a z b = some u) : (b ∈ T ∧ u = .tbl #[]) ∨ (b ∉ T ∧ b = a ∧ z = some u) := by
  unfold entryH at h
  by_cases hb : b ∈ T
  · rw [if_pos hb] at h
    exact .inl ⟨hb, (Option.some.inj h).symm⟩
  · rw [if_neg hb] at h
    by_cases ha : b = a
    · rw [if_pos ha] at h
      exact .inr ⟨hb, ha, h⟩
    · rw [if_neg ha] at h
      cases h
theorem entry_none {T : List Addr} {a b : Addr} {z : Option HO} (h1 : b ∉ T) (h2 : b ≠ a) : entryH T a z b = none := (if_neg h1).trans (if_neg h2)

/-- what the law's promise may know of the script and of the heap ahead -/
structure Entry (K : PySem.W.Frag) (cs : List (Addr × Addr)) (n : Nat) (H : Hp) (a : Addr) (ns : List Int) : Prop where
  few : ns.length ≤ n
  bits : ∀ z ∈ ns, Builtin.Int.intBits z ≤ 1048576
  tabs : ∀ p ∈ cs, H p.2 = some (.tbl #[])
  at_ : SqL K H a (ns.map V.int)

abbrev tabObj : Obj := { cls := .none, data := .fields #[] }
abbrev listObj (vs : List Value) : Obj := { cls := .type "list", data := .seq vs.toArray }

theorem law_callG {P : Program} {w : World} {K : PySem.W.Frag} {mg mb : Str → Option Value} {CX : CXT} {k n : Nat} {fa a : Addr} {cs : List (Addr × Addr)} {fd : FuncData} {x : Str} {sp : Pins → Sp} {s₁ : Shared} {vs : List Value} {ns : List Int}
    (inK : K.In s₁.heap) (glob : s₁.heap.Ns mainGlobals mg) (blt : s₁.heap.Ns builtinsNs mb) (boot : ∀ x : Str, x ≠ "__name__" → mb x = bootBuiltins x) (lim : s₁.heap.NoLimit) (gens : s₁.gens = #[])
    (tabs : ∀ p ∈ cs, s₁.heap.get? p.2 = some tabObj) (outK : ∀ p ∈ cs, K.lookup p.2 = none) (code : ∀ p ∈ cs, PySem.W.CodeHd s₁.heap p.1 p.2)
    (bmod : ∃ (bm : Addr) (ob : Obj), mg "__builtins__" = some (.ref bm) ∧ bm ≠ builtinsNs ∧ s₁.heap.get? bm = some ob ∧ ob.cls = .type "module" ∧ ob.dict = some builtinsNs ∧ ob.data = .plain)
    (ha : s₁.heap.get? a = some (listObj vs)) (allInt : IntsAre vs ns) (few : ns.length ≤ n) (hn : n ≤ sizeLine) (bits : ∀ z ∈ ns, Builtin.Int.intBits z ≤ 1048576) (room : Room k callerA)
    (F : ∀ base : Heap, K.In base → base.Ns mainGlobals mg → (∀ p ∈ cs, TabB base mg p.1 p.2) → FnG P w K mg base CX Quiet k fa fd [x] sp) (hbind : ∀ (s : Shared) (u : Value), BindsTo s fd ⟨[u], []⟩ [(x, u)])
    (hsp : ∀ H : Hp, Entry K cs n H a ns → sp [] [.ref a] H (fun v _ => v = .bl true) fun _ _ _ => False)
    (hCX : ∀ H e s', CX [] H s₁ (fun _ _ _ => False) e s' → False) :
    codeAny (model P w) callerA (.call (.ref fa) ⟨[.ref a], []⟩) (fun r s' => r = .ok (.ret (.bool true)) ∧ OldK s₁.heap s'.heap ∧ s'.os = s₁.os ∧ AllBare s'.gens) s₁ := by
  have rel := vals_ints allInt
  have long : vs.length = ns.length := allInt.length
  let T := cs.map (·.2)
  have tabT : ∀ b ∈ T, s₁.heap.get? b = some tabObj := fun b hb => by
    obtain ⟨p, hp, e⟩ := List.mem_map.mp hb
    exact e ▸ tabs p hp
  have inT : ∀ p ∈ cs, p.2 ∈ T := fun p hp => List.mem_map.mpr ⟨p, hp, rfl⟩
  have aT : a ∉ T := fun z => by
    have q := tabT a z
    rw [ha] at q
    have q2 := congrArg Obj.data (Option.some.inj q)
    cases q2
  -- whichever way the script is known
  have run : ∀ z : Option HO, (∀ u, z = some u → u = .frz (listObj vs) (.lst (ns.map V.int)) ∧ K.lookup a = none) → SqL K (entryH T a z) a (ns.map V.int) →
      codeAny (model P w) callerA (.call (.ref fa) ⟨[.ref a], []⟩) (fun r s' => r = .ok (.ret (.bool true)) ∧ OldK s₁.heap s'.heap ∧ s'.os = s₁.os ∧ AllBare s'.gens) s₁ := by
    intro z hz hS
    have hok : HOk P w (entryH T a z) s₁.heap := fun b u e => by
      rcases entry_cases e with ⟨hb, hu⟩ | ⟨_, hb, hu⟩
      · subst hu
        exact tabT b hb
      · subst hb
        obtain ⟨hu2, _⟩ := hz u hu
        subst hu2
        exact ⟨ha, by rw [List.length_map]; omega, vs, _, rel, ha⟩
    -- dicts, modules, code objects are none of these
    have free : ∀ {b : Addr} {o : Obj}, s₁.heap.get? b = some o → o ≠ tabObj → o ≠ listObj vs → entryH T a z b = none := fun {b o} e h1 h2 => by
      refine entry_none (fun hb => ?_) (fun hb => ?_)
      · rw [tabT b hb] at e
        exact h1 (Option.some.inj e).symm
      · rw [hb, ha] at e
        exact h2 (Option.some.inj e).symm
    have keep : ∀ {b : Addr} {o : Obj}, s₁.heap.get? b = some o → entryH T a z b = none → (hidT s₁.heap (entryH T a z)).get? b = some o := hidT_get
    have ofD : ∀ {b : Addr} {o : Obj} {es : Array DictEntry} {ep : Nat}, s₁.heap.get? b = some o → o.data = .dict es ep → entryH T a z b = none := fun {b o es ep} e d =>
      free e (fun q => by rw [q] at d; cases d) (fun q => by rw [q] at d; cases d)
    have ns2 : ∀ {b : Addr} {m : Str → Option Value}, s₁.heap.Ns b m → (hidT s₁.heap (entryH T a z)).Ns b m := fun {b m} q => by
      obtain ⟨o, es, ep, e, d, r⟩ := q
      exact ⟨o, es, ep, keep e (ofD e d), d, r⟩
    have K2 : K.In (hidT s₁.heap (entryH T a z)) := fun b o e => keep (inK b o e) (by
      cases q : entryH T a z b with
      | none => rfl
      | some u =>
        rcases entry_cases q with ⟨hb, _⟩ | ⟨_, hb, hu⟩
        · obtain ⟨p, hp, ep⟩ := List.mem_map.mp hb
          rw [← ep, outK p hp] at e
          cases e
        · rw [hb, (hz u hu).2] at e
          cases e)
    have md : L2.Mod K mg (hidT s₁.heap (entryH T a z)) := by
      obtain ⟨mc, h1, h2⟩ := lim
      exact ⟨K2, ns2 glob, ⟨mb, ns2 blt, boot⟩, mc, ns2 h1, h2⟩
    have notG : ∀ {b : Addr} {o : Obj}, s₁.heap.get? b = some o → (∀ es ep, o.data ≠ .dict es ep) → b ≠ mainGlobals := fun {b o} e h q => by
      obtain ⟨o2, es, ep, e2, d2, _⟩ := glob
      rw [q, e2] at e
      exact h es ep ((congrArg Obj.data (Option.some.inj e)).symm.trans d2)
    have TB : ∀ p ∈ cs, TabB (hidT s₁.heap (entryH T a z)) mg p.1 p.2 := fun p hp => by
      have ht := tabs p hp
      refine ⟨?_, ?_, fun q => notG ht (fun es ep d => by cases d) q.symm⟩
      · obtain ⟨o, us, file, tf, flags, tg, inF, text, tt, e1, r1, r2, r3, rest⟩ := code p hp
        refine ⟨o, us, file, tf, flags, tg, inF, text, tt, keep e1 (free e1 (fun q => ?_) fun q => ?_), r1, r2, r3, rest⟩
        · rw [q] at r2
          have e := Data.fields.inj r2
          rw [← e] at r3
          simp at r3
        · rw [q] at r2
          cases r2
      · obtain ⟨bm, ob, b1, b2, b3, b4, b5, b6⟩ := bmod
        refine ⟨bm, ob, b1, b2, notG b3 (fun es ep d => by rw [b6] at d; cases d), fun q => ?_, keep b3 (free b3 (fun q => ?_) fun q => ?_), b4, b5, b6⟩
        · rw [q, ht] at b3
          rw [← Option.some.inj b3] at b6
          cases b6
        · rw [q] at b6
          cases b6
        · rw [q] at b6
          cases b6
    have e0 : Env0 P w K mg (hidT s₁.heap (entryH T a z)) callerA [] s₁ (entryH T a z) :=
      ⟨rfl, md, fun b o e => of_hidT e, Nat.le_of_eq (hidT_size _ _), trivial, fun b hb => (nomatch (show b ∈ ([] : List Addr) from hb)), hok, .of_eq gens⟩
    have want := hsp (entryH T a z) ⟨few, bits, fun p hp => entry_tab (inT p hp), hS⟩
    refine codeAny_mono ((F _ K2 (ns2 glob) TB).go [] callerA [] s₁ _ ⟨[.ref a], []⟩ [.ref a] [.ref a] _ _ ⟨room.dp, room.un⟩ ⟨room.hd, rfl⟩ (fun p hp => (nomatch hp)) e0 (hbind s₁ (.ref a)) (.cons rfl .nil) want) fun r s' hr => ?_
    match r, hr with
    | .error e, hr => exact (hCX _ e s' hr).elim
    | .ok (.ret u), hr =>
      obtain ⟨v, H', os, bare, un, hok', rv, q⟩ := hr
      subst q
      cases (show u = Value.bool true from rv)
      have stay : ∀ b o, b ∉ T → s₁.heap.get? b = some o → s'.heap.get? b = some o := fun b o nb e => by
        cases q : entryH T a z b with
        | none => exact un.keep b o e q (fun w => nomatch (show b ∈ ([] : List Addr) from w)) (fun w => nomatch w)
        | some u =>
          rcases entry_cases q with ⟨hb, _⟩ | ⟨_, hb, hu⟩
          · exact absurd hb nb
          · obtain ⟨hu2, _⟩ := hz u hu
            subst hu2
            obtain ⟨e1, _⟩ := hok b _ q
            obtain ⟨e2, _⟩ := hok' b _ (un.frzs b _ _ q)
            exact e2.trans (e1.symm.trans e)
      have grown : ∀ b ∈ T, ∃ more : Array Value, s'.heap.get? b = some { cls := .none, data := .fields more } := fun b hb => by
        obtain ⟨more, q⟩ := un.tbls b #[] (entry_tab hb)
        exact ⟨_, hok' b _ q⟩
      refine ⟨rfl, ⟨fun b o e => ?_, fun b o e => ?_⟩, os, bare⟩
      · by_cases hb : b ∈ T
        · obtain ⟨more, hm⟩ := grown b hb
          have e2 := tabT b hb
          rw [e] at e2
          cases e2
          obtain ⟨p, hp, ep⟩ := List.mem_map.mp hb
          subst ep
          exact .inr (.inl ⟨((code p hp).tab (tabs p hp)).isCodeTable, rfl, #[], more, rfl, by rw [Array.empty_append]; exact hm⟩)
        · exact .inl (stay b o hb e)
      · by_cases hb : b ∈ T
        · obtain ⟨more, hm⟩ := grown b hb
          exact ⟨_, hm⟩
        · exact ⟨o, stay b o hb e⟩
  cases hk : K.lookup a with
  | some o =>
    have e := inK a o hk
    rw [ha] at e
    cases e
    exact run none (fun u q => nomatch q) (.inr ⟨_, vs.toArray, _, hk, rfl, rfl, rfl, by rw [List.size_toArray, long]; omega, by simpa using rel⟩)
  | none => exact run (some (.frz (listObj vs) (.lst (ns.map V.int)))) (fun u q => ⟨(Option.some.inj q).symm, hk⟩) (.inl (.inr ⟨listObj vs, entry_script aT⟩))

/-- what is known of the law's promise at the head's heap h -/
def LawG (l : PySem.W.OpenLaw) (w : World) (K : PySem.W.Frag) (CX : CXT) (k n : Nat) (x : Str) (mg : Str → Option Value) (fa : Addr) (h : Heap) : Prop :=
  ∃ (fd : FuncData) (cs : List (Addr × Addr)) (sp : Pins → Sp), (∀ p ∈ cs, h.get? p.2 = some tabObj) ∧ (∀ p ∈ cs, K.lookup p.2 = none) ∧ (∀ p ∈ cs, PySem.W.CodeHd h p.1 p.2) ∧ (∀ (s : Shared) (u : Value), BindsTo s fd ⟨[u], []⟩ [(x, u)]) ∧
    (∀ (H : Hp) (a : Addr) (ns : List Int), Entry K cs n H a ns → sp [] [.ref a] H (fun v _ => v = .bl true) fun _ _ _ => False) ∧
    ∀ base : Heap, K.In base → base.Ns mainGlobals mg → (∀ p ∈ cs, TabB base mg p.1 p.2) → FnG l.prog w K mg base CX Quiet k fa fd [x] sp
theorem walk_ofG {l : PySem.W.OpenLaw} {n k : Nat} {q : Program} {loose : List Str} {XP : (Str → Option Value) → Heap → Prop} {YP : World → Heap → Prop} {d : DefRec} {CX : World → CXT} {x : Str}
    (hn : l.most = some n) (hn2 : n ≤ sizeLine) (hdf : d.params.defaults = []) (room : Room k callerA)
    (F : ∀ (w : World) (mg : Str → Option Value) (fa : Addr) (h : Heap), YP w h → h.Ns mainGlobals mg → mg d.name = some (.ref fa) → ∃ K : PySem.W.Frag, K.In h ∧ LawG l w K (CX w) k n x mg fa h)
    (hCX : ∀ (w : World) (H : Hp) (s : Shared) (e : Value) (s' : Shared), CX w [] H s (fun _ _ _ => False) e s' → False) :
    PySem.W.WalkO q loose XP YP l.row.toRowW d [] (fun f vs => PySem.call f vs) :=
  Att.attach_callB hn hdf fun w _ s₁ mg _ fa _ _ _ _ a vs ns G Y _ _ _ hmg hobj hints hlen hbits hg => by
    obtain ⟨K, inK, fd, cs, sp, h1, h2, h3, hb, hsp, hF⟩ := F w mg fa _ Y G.T.g hmg
    exact law_callG inK G.T.g G.T.b G.T.builtins G.T.nolimit hg h1 h2 h3 G.T.bmain hobj hints hlen hn2 hbits room hF hb (fun H e => hsp H a ns e) fun H e s' => hCX w H s₁ e s'
end Tc
/-! repr of data: none, bools, ints, texts, lists and tuples of these; a flat dict -/
namespace Tc
open PySem PySem.Spec PyProof.Rows L2

mutual
theorem dp_noDict {K : PySem.W.Frag} {H : Hp} : ∀ (d : PyData) (v : V), Dp K H v d → d.hasDict = false
  | .none, _, _ => by simp only [PyData.hasDict]
  | .bool _, _, _ => by simp only [PyData.hasDict]
  | .int _, _, _ => by simp only [PyData.hasDict]
  | .str _, _, _ => by simp only [PyData.hasDict]
  | .list ds, _, h => by
    cases h with
    | lst _ a =>
      simp only [PyData.hasDict]
      exact dps_noDict ds _ a
  | .tuple ds, _, h => by
    cases h with
    | tup _ a =>
      simp only [PyData.hasDict]
      exact dps_noDict ds _ a
  | .dict _, _, h => by cases h
theorem dps_noDict {K : PySem.W.Frag} {H : Hp} : ∀ (ds : List PyData) (vs : List V), DpAll K H vs ds → PyData.hasDictAll ds = false
  | [], _, _ => by simp only [PyData.hasDictAll]
  | d :: ds, _, h => by
    cases h with
    | cons a b =>
      simp only [PyData.hasDictAll]
      rw [dp_noDict d _ a, dps_noDict ds _ b]
      rfl
end

/-- a plain value as data -/
def flatD : V → Option PyData
  | .non => some .none
  | .bl b => some (.bool b)
  | .int i => some (.int i)
  | .str x => some (.str x)
  | _ => none
def keyD : Key → PyData
  | .inl i => .int i
  | .inr x => .str x
/-- a flat dict's data -/
def kvD : List (Key × V) → Option (List (PyData × PyData))
  | [] => some []
  | (k, v) :: r => match flatD v, kvD r with
    | some d, some ds => some ((keyD k, d) :: ds)
    | _, _ => none
/-- data, or a flat dict -/
def Dr (K : PySem.W.Frag) (H : Hp) (v : V) (d : PyData) : Prop := Dp K H v d ∨ ∃ (a : Addr) (kvs : List (Key × V)) (ds : List (PyData × PyData)), v = .ref a ∧ H a = some (.dK kvs) ∧ kvD kvs = some ds ∧ d = .dict ds
section
variable {X : Cx} {pins : Pins} {σ : L2.St} {H : Hp} {s : Shared}
theorem flat_reads {h : Heap} {v : V} {u : Value} {d : PyData} (e : flatD v = some d) (r : RelV v u) : Reads h u d [] := by
  cases v <;> simp only [flatD, Option.some.injEq, reduceCtorEq] at e <;> subst e
  · cases r; exact .none
  · cases r; exact .bool _
  · obtain ⟨t, rfl⟩ := r; exact .int _ t
  · obtain ⟨t, rfl⟩ := r; exact .str _ t
theorem kv_reads {P : Program} {w : World} {h : Heap} : ∀ {kvs : List (Key × V)} {vs : List (Key × Value)} {es : List DictEntry} {ds : List (PyData × PyData)}, KV kvs vs → Pairs (mixKind P w) es vs → kvD kvs = some ds →
    ReadsAll h (es.map (·.key)) (ds.map (·.1)) [] ∧ ReadsAll h (es.map (·.val)) (ds.map (·.2)) []
  | [], _, _, _, hk, hp, e => by
    cases hk
    cases hp
    cases e
    exact ⟨.nil, .nil⟩
  | (k, v) :: r, _, _, ds, hk, hp, e => by
    cases hk with
    | @cons _ q _ qs h1 h2 =>
      cases hp with
      | @cons e0 _ es0 _ p1 p2 p3 =>
        have e2 : (match flatD v, kvD r with | some d, some ds => some ((keyD k, d) :: ds) | _, _ => none) = some ds := e
        cases ev : flatD v with
        | none => rw [ev] at e2; cases e2
        | some d =>
          cases er : kvD r with
          | none => rw [ev, er] at e2; cases e2
          | some dr =>
            rw [ev, er] at e2
            cases e2
            obtain ⟨i1, i2⟩ := kv_reads (h := h) h2 p3 er
            obtain ⟨g1, g2⟩ := h1
            have key : Reads h e0.key (keyD k) [] := by
              have p4 : keyIs q.1 e0.key = true := p1
              rw [show q.1 = k from g1.symm] at p4
              rcases keyIs_shape p4 with ⟨i, t, ek, ev2⟩ | ⟨x, t, ek, ev2⟩
              · rw [ek, ev2]; exact .int i t
              · rw [ek, ev2]; exact .str x t
            have val : Reads h e0.val d [] := by
              rw [p2]
              exact flat_reads ev g2
            exact ⟨.cons key i1, .cons val i2⟩
theorem Dr.reads (I : Inv X pins σ H s) {d : PyData} {v : V} {u : Value} (h : Dr X.K H v d) (r : RelV v u) : ∃ as, Reads s.heap u d as ∧ (d.hasDict = true → sysModules ∉ as) := by
  rcases h with h | ⟨a, kvs, ds, rfl, ha, e, rfl⟩
  · obtain ⟨as, q⟩ := Dp.reads I d v u h r
    exact ⟨as, q, PyData.noDict_hsm (dp_noDict d v h)⟩
  · cases (show u = Value.ref a from r)
    obtain ⟨_, no, vs, hkv, o, es, ep, h1, h2, h3, _, hp, _⟩ := (show ObjOk X.prog X.w H s.heap a (.dK kvs) from I.hok a _ ha)
    obtain ⟨q1, q2⟩ := kv_reads (h := s.heap) hkv hp e
    refine ⟨_, .dict h1 h2.1 h3 q1 q2, fun _ hm => ?_⟩
    have e2 : sysModules = a := by simpa using hm
    rw [e2] at no
    simp at no
/-- repr(x) -/
def rRepr (K : PySem.W.Frag) : List V → Hp → VK → Prop := fun xs H Q => ∃ (x : V) (d : PyData), xs = [x] ∧ Dr K H x d ∧ d.showable = true ∧ d.shown.length ≤ sizeLine ∧ d.depth ≤ 64 ∧ Q (.str d.shown) H
theorem call_repr (hg : X.A.guards = some []) (hu : X.A.units + 80 < cLine) : CallR X (.builtin "repr") (rRepr X.K) := by
  intro pins s σ H xs us Q I r h
  obtain ⟨x, d, rfl, hd, hs, hz, hn, q⟩ := h
  obtain ⟨u, rfl, ru⟩ := vals1 r
  obtain ⟨as, rd, no⟩ := hd.reads I ru
  cases rd with
  | none =>
    exact PySem.P.repr_of_none ⟨.str _, H, I.tok _, ⟨_, rfl⟩, by simpa only [PyData.shown] using q⟩
  | bool b => exact PySem.P.repr_of_bool ⟨.str _, H, I.tok _, ⟨_, rfl⟩, by simpa only [PyData.shown] using q⟩
  | int i t => exact PySem.P.repr_of_int (by simpa only [PyData.showable, decide_eq_true_eq] using hs) ⟨.str _, H, I.tok _, ⟨_, rfl⟩, by simpa only [PyData.shown] using q⟩
  | str x t =>
    have hz2 : (reprText x).length ≤ sizeLine := by simpa only [PyData.shown] using hz
    exact PySem.P.repr_of_str ⟨.str _, H, I.tok _, ⟨_, rfl⟩, by simpa only [PyData.shown] using q⟩ hz2
  | list h1 h2 h3 h4 => exact repr_of_reads' (.list h1 h2 h3 h4) hs no hg (by omega) (fun _ _ e => e) (fun h' u tk kp => ⟨.str _, H, I.kept kp, ⟨_, rfl⟩, q⟩) hz
  | tuple h1 h2 h3 h4 => exact repr_of_reads' (.tuple h1 h2 h3 h4) hs no hg (by omega) (fun _ _ e => e) (fun h' u tk kp => ⟨.str _, H, I.kept kp, ⟨_, rfl⟩, q⟩) hz
  | dict h1 h2 h3 h4 h5 => exact repr_of_reads' (.dict h1 h2 h3 h4 h5) hs no hg (by omega) (fun _ _ e => e) (fun h' u tk kp => ⟨.str _, H, I.kept kp, ⟨_, rfl⟩, q⟩) hz
end
end Tc
/-! The head's facts, by names: defs, error classes, tables of code objects. -/
namespace Tc
open PySem PySem.Spec PyProof.Rows L2 He

/-! ### an error class of the program -/
/-- the class at C: over ValueError, with dicts, nothing odd -/
def excClsB (K : PySem.W.Frag) (C : Addr) : Bool := match K.lookup C with
  | some ⟨.type t, _, .cls cd, sl⟩ => (match cd.mro, sl.toList with
    | .ref D :: bm, [_, _, _, _, some (.builtin n), _] => decide (t = "type") && (decide (D = C) && (decide (n = "ValueError.__new__") && (!cd.hasDel && (cd.hasDict && PySem.HandSPX.refsVE bm))))
    | _, _ => false)
  | _ => false
theorem excClsB_ok {K : PySem.W.Frag} {C : Addr} (h : excClsB K C = true) : ∃ nm q N bs bm sn sub ab col dd k0 k1 k2 k3 k5, K.lookup C = some (excClassObj nm q C N bs bm true sn sub ab col dd k0 k1 k2 k3 k5 "ValueError.__new__") ∧ PySem.HandSPX.refsVE bm = true := by
  unfold excClsB at h
  split at h
  · rename_i t dd cd sl lk
    split at h
    · rename_i D bm k0 k1 k2 k3 n k5 hm hs
      simp only [Bool.and_eq_true, decide_eq_true_eq, Bool.not_eq_true'] at h
      obtain ⟨h1, h2, h3, h4, h5, h6⟩ := h
      subst h1 h2 h3
      obtain ⟨l⟩ := sl
      obtain ⟨a1, a2, a3, a4, a5, a6, a7, a8, a9, a10, a11⟩ := cd
      simp only at hm hs h4 h5
      subst hm hs h4 h5
      exact ⟨_, _, _, _, bm, _, _, _, _, _, _, _, _, _, _, lk, h6⟩
    · cases h
  · cases h
def exB (a b : Option (Option Value)) : Bool := decide (a = b)
/-- all that the rules ask of an error class, its fields fs -/
def errB (K : PySem.W.Frag) (C : Addr) (fs : List Str) : Bool :=
  excClsB K C && (exB (PySem.W.findIn K (.ref C) "__setattr__") (some (some (.builtin "object.__setattr__"))) && (decide (PySem.W.subIn K (.ref C) (.type "BaseException") = some true) && (decide (PySem.W.typeIn K (.ref C) = some (.type "type")) && (PySem.W.keepIn K (.ref C) &&
  (exB (PySem.W.findIn K (.ref C) "__getattribute__") (some (some (.builtin "BaseException.__getattribute__"))) && (exB (PySem.W.findIn K (.ref C) "__getattr__") (some none) && (PySem.W.hasDictIn K C && (exB (PySem.W.findIn K (.ref C) "__class__") (some (some (.builtin "object.__class__"))) &&
  (exB (PySem.W.specialIn K (.builtin "object.__class__") "__get__") (some (some (.builtin "getset_descriptor.__get__"))) && (decide (PySem.W.takesIn K (.builtin "object.__class__") = some true) && (decide (PySem.W.mroIn K C (.type "object") = some true) &&
  fs.all fun f => exB (PySem.W.findIn K (.ref C) f) (some none))))))))))))
structure ErrC (K : PySem.W.Frag) (C : Addr) (fs : List Str) : Prop where
  oex : OexC K C
  exc : L2.ExcC K C
  none_ : ∀ f ∈ fs, PySem.W.findIn K (.ref C) f = some none
theorem errB_ok {K : PySem.W.Frag} {C : Addr} {fs : List Str} (h : errB K C fs = true) : ErrC K C fs := by
  unfold errB exB at h
  simp only [Bool.and_eq_true, decide_eq_true_eq, List.all_eq_true] at h
  obtain ⟨h1, h2, h3, h4, h5, h6, h7, h8, h9, h10, h11, h12, h13⟩ := h
  exact ⟨⟨excClsB_ok h1, h2, h3, h4, h5⟩, ⟨h6, h7, h3, h8, h9, h10, h11, h12⟩, h13⟩
/-- __init__ of a class is the def at f -/
def initB (K : PySem.W.Frag) (C : Addr) : Bool := exB (PySem.W.findIn K (.ref C) "__init__") (some (some (.ref (ma K C "__init__")))) && decide (PySem.W.typeIn K (.ref (ma K C "__init__")) = some (.type "function"))
theorem initB_ok {K : PySem.W.Frag} {C : Addr} (h : initB K C = true) : PySem.W.findIn K (.ref C) "__init__" = some (some (.ref (ma K C "__init__"))) ∧ PySem.W.typeIn K (.ref (ma K C "__init__")) = some (.type "function") := by
  unfold initB exB at h
  simp only [Bool.and_eq_true, decide_eq_true_eq] at h
  exact h
def baseB (K : PySem.W.Frag) (C : Addr) : Bool := exB (PySem.W.specialIn K (.ref C) "__getattribute__") (some (some (.builtin "type.__getattribute__"))) && (PySem.W.readsIn K C (.type "type") && (match PySem.W.findCls K (.ref C) (.type "type") "__init__" with
  | some (.val (.builtin n)) => decide (n = "ValueError.__init__")
  | _ => false))
theorem baseB_ok {K : PySem.W.Frag} {C : Addr} (h : baseB K C = true) : BaseC K C := by
  unfold baseB exB at h
  simp only [Bool.and_eq_true, decide_eq_true_eq] at h
  obtain ⟨h1, h2, h3⟩ := h
  refine ⟨h1, h2, ?_⟩
  split at h3
  · rename_i n e
    rw [e, of_decide_eq_true h3]
  · cases h3
/-- isinstance of each error class among the others, and by ValueError; each is caught by the base -/
def kinB (K : PySem.W.Frag) (base : Str) (xs : List Str) : Bool :=
  (xs.all fun x => xs.all fun y => decide (PySem.W.kitOne K (.ref (ga K x)) (.ref (ga K y)) = some (decide (x = y)))) &&
  xs.all fun x => decide (PySem.W.kitOne K (.ref (ga K x)) (.type "ValueError") = some true) && decide (PySem.W.exmOne K (.ref (ga K x)) (.ref (ga K base)) = some true)
structure Kin (K : PySem.W.Frag) (base : Str) (xs : List Str) : Prop where
  own : ∀ x ∈ xs, ∀ y ∈ xs, PySem.W.kitOne K (.ref (ga K x)) (.ref (ga K y)) = some (decide (x = y))
  ve : ∀ x ∈ xs, PySem.W.kitOne K (.ref (ga K x)) (.type "ValueError") = some true
  caught : ∀ x ∈ xs, PySem.W.exmOne K (.ref (ga K x)) (.ref (ga K base)) = some true
theorem kinB_ok {K : PySem.W.Frag} {base : Str} {xs : List Str} (h : kinB K base xs = true) : Kin K base xs := by
  unfold kinB at h
  simp only [Bool.and_eq_true, decide_eq_true_eq, List.all_eq_true] at h
  obtain ⟨h1, h2⟩ := h
  exact ⟨h1, fun x hx => (h2 x hx).1, fun x hx => (h2 x hx).2⟩
/-- the classes of the program's errors, each with its fields -/
def errsB (K : PySem.W.Frag) (base : Str) (es : List (Str × List Str)) : Bool := baseB K (ga K base) && (kinB K base (es.map (·.1)) && es.all fun e => initB K (ga K e.1) && errB K (ga K e.1) e.2)

/-- a tuple of texts that stands in the written part under a name -/
def strsAre : List Value → List Str → Bool
  | [], [] => true
  | .str y _ :: us, x :: xs => decide (y = x) && strsAre us xs
  | _, _ => false
def strTup (K : PySem.W.Frag) (x : Str) (ws : List Str) : Bool := match K.lookup (ga K x) with
  | some o => decide (o.cls = .type "tuple") && (match o.data with | .seq its _ => decide (its.size ≤ 1000) && strsAre its.toList ws | _ => false)
  | none => false
theorem strsAre_ok : ∀ {us : List Value} {ws : List Str}, strsAre us ws = true → Vals (ws.map V.str) us
  | [], [], _ => .nil
  | .str y t :: us, x :: xs, h => by
    simp only [strsAre, Bool.and_eq_true, decide_eq_true_eq] at h
    obtain ⟨rfl, h2⟩ := h
    exact .cons ⟨t, rfl⟩ (strsAre_ok h2)
  | [], _ :: _, h => by simp [strsAre] at h
  | .str _ _ :: _, [], h => by simp [strsAre] at h
theorem strTup_ok {K : PySem.W.Frag} {x : Str} {ws : List Str} (h : strTup K x ws = true) (H : Hp) : SqT K H (ga K x) (ws.map V.str) := by
  unfold strTup at h
  split at h
  · rename_i o e
    simp only [Bool.and_eq_true, decide_eq_true_eq] at h
    obtain ⟨h1, h2⟩ := h
    split at h2
    · rename_i its n ed
      simp only [Bool.and_eq_true, decide_eq_true_eq] at h2
      exact .inr ⟨o, its, n, e, h1, ed, Nat.le_of_lt (small1000 h2.1), strsAre_ok h2.2⟩
    · cases h2
  · cases h

/-! ### the Hook -/
def frZ (g : Addr → Option Obj) (n : Nat) : PySem.W.Frag := frT g (cStatics :: asD g n)
abbrev AlZ : Type := AlD × Bool
def obsZ (n : Nat) (fa : List Fa) (fn : List DefD) (tf : List Defn) (ex : PySem.W.Frag → Bool) (g : Addr → Option Obj) : AlZ := (obsD fa fn (frZ g n), ex (frZ g n) && tabsB g tf (frZ g n))
structure SaysZ (fa : List Fa) (fn : List DefD) (tf : List Defn) (ex : PySem.W.Frag → Bool) (h : Heap) (K : PySem.W.Frag) : Prop where
  d : SaysD fa fn K
  more : ex K = true
  hd : ∀ p ∈ tf, PySem.W.codeHdIn K (cT K p).1 (cT K p).2 = true
  out : ∀ p ∈ tf, K.lookup (cT K p).2 = none
  empty : ∀ p ∈ tf, h.get? (cT K p).2 = some { cls := .none, data := .fields #[] }
theorem saysZ_of {n : Nat} {fa : List Fa} {fn : List DefD} {tf : List Defn} {ex : PySem.W.Frag → Bool} {h : Heap} (e : obsZ n fa fn tf ex h.get? = (valD fn, true)) : SaysZ fa fn tf ex h (frZ h.get? n) := by
  have e1 : obsD fa fn (frZ h.get? n) = valD fn := congrArg Prod.fst e
  have e2 : (ex (frZ h.get? n) && tabsB h.get? tf (frZ h.get? n)) = true := congrArg Prod.snd e
  obtain ⟨h1, h2⟩ := ba e2
  have each : ∀ p ∈ tf, PySem.W.codeHdIn (frZ h.get? n) (cT (frZ h.get? n) p).1 (cT (frZ h.get? n) p).2 = true ∧ ∃ o, h.get? (cT (frZ h.get? n) p).2 = some o ∧ emptyTab o = true := by
    intro p hp
    obtain ⟨h3, h4⟩ := ba (List.all_eq_true.mp h2 p hp)
    refine ⟨h3, ?_⟩
    cases q : h.get? (cT (frZ h.get? n) p).2 with
    | some o => exact ⟨o, rfl, by rw [q] at h4; exact h4⟩
    | none => rw [q] at h4; cases h4
  refine ⟨e1, h1, fun p hp => (each p hp).1, fun p hp => ?_, fun p hp => ?_⟩
  · obtain ⟨_, o, q, z⟩ := each p hp
    exact frT_none q z
  · obtain ⟨_, o, q, z⟩ := each p hp
    rw [q, emptyTab_eq z]
def hookZ (n : Nat) (fa : List Fa) (fn : List DefD) (tf : List Defn) (ex : PySem.W.Frag → Bool) : PySem.W.Hook where
  α := AlZ
  obs := fun s => obsZ n fa fn tf ex s.heap.get?
  val := fun _ => (valD fn, true)
  says := fun _ h => ∃ K : PySem.W.Frag, K.In h ∧ SaysZ fa fn tf ex h K
  of := fun _ _ e => ⟨_, frT_in, saysZ_of e⟩
  keeps := fun _ _ _ ⟨K, hK, c⟩ k => ⟨K, PySem.W.Frag.In.keeps hK k, ⟨c.d, c.more, c.hd, c.out, fun p hp => k _ _ (c.empty p hp)⟩⟩
theorem obsZ_eq {n : Nat} {fa : List Fa} {fn : List DefD} {tf : List Defn} {ex : PySem.W.Frag → Bool} {g : Addr → Option Obj} {s : Shared} (h : ∀ a, g a = s.heap.get? a) : obsZ n fa fn tf ex g = (hookZ n fa fn tf ex).obs s := by
  have e : g = s.heap.get? := funext h
  rw [e] <;> rfl
/-- a def of no defaults, by the short words -/
theorem fun_of {K : PySem.W.Frag} {x qual : Str} {st : Stmt} {f : Addr} {fd : FuncData} (F : FunD K x qual (defArgs st) (defBody st) (defScope st) [] [] f fd) : Fun K x qual st f fd := by
  obtain ⟨oc, od, dV, kV, doc, pm, an, cdv, ct, osl, e, lk, hc, hd, _⟩ := F.ex
  have hz : dV = .none := by
    rcases hd with h | ⟨h, _⟩
    · first | exact h.1 | exact h.2
    · exact absurd rfl h
  subst hz
  exact ⟨⟨oc, od, kV, doc, pm, an, cdv, ct, osl, e, lk, hc⟩, F.kp⟩
end Tc
/-! Defs by name, the law's pen -/
namespace Tc
open PySem PySem.Spec PyProof.Rows L2
open L2H (RoomH PinOk)

/-! ### a def of the module as its callers see it -/
structure Callee (P : Program) (w : World) (K : PySem.W.Frag) (mg : Str → Option Value) (base : Heap) (CX : CXT) (k : Nat) (x : Str) (ps : List Str) (sp : Sp) : Prop where
  ex : ∃ (f : Addr) (fd : FuncData), FnOk P w K mg base CX k f fd ps sp ∧ mg x = some (.ref f) ∧ PySem.W.keepIn K (.ref f) = true ∧ Binds K fd ps []
section
variable {X : Cx} {j k : Nat} {x : Str} {ps : List Str} {sp : Sp} {e : Expr} {es : List Expr} {t : TA} {p pos : Pos} {W : WX}
theorem Callee.mono {P : Program} {w : World} {K : PySem.W.Frag} {mg : Str → Option Value} {base : Heap} {CX : CXT} (c : Callee P w K mg base CX k x ps sp) (h : k ≤ j) : Callee P w K mg base CX j x ps sp := by
  obtain ⟨f, fd, F, g, kp, b⟩ := c.ex
  exact ⟨f, fd, F.mono h, g, kp, b⟩
/-- f(e, ..), nothing is raised -/
theorem pe_f (c : Callee X.prog X.w X.K X.mg X.base CX0 k x ps sp) (hr : Room j X.A) (ha : PA X (e :: es) t) (hk : k ≤ j := by decide) (hg : Gl X x := by rfl) (hdb : (x == ("__debug__" : Str)) = false := by decide)
    (he : starEach (e :: es) X.env = (false, eval e X.env) :: starEach es X.env := by rfl) (hpl : (backTo pos (starEach es X.env)).any (·.1) = false := by rfl) : PE X (.Call (.Name x p) (e :: es) [] pos) (tCall sp [] E0 t) := by
  obtain ⟨f, fd, F, g, kp, b⟩ := c.ex
  exact pe_call F (hr.mono hk) hg g kp b .nil pass0 ha hdb he hpl
/-- f(e, ..) that may raise -/
theorem pe_fX (c : Callee X.prog X.w X.K X.mg X.base (L2.CX X.prog X.w) k x ps sp) (hr : Room j X.A) (tk : Takes X W) (ha : PA X (e :: es) t) (hk : k ≤ j := by decide) (hg : Gl X x := by rfl) (hdb : (x == ("__debug__" : Str)) = false := by decide)
    (he : starEach (e :: es) X.env = (false, eval e X.env) :: starEach es X.env := by rfl) (hpl : (backTo pos (starEach es X.env)).any (·.1) = false := by rfl) : PE X (.Call (.Name x p) (e :: es) [] pos) (tCallS sp (WE W) t) := by
  obtain ⟨f, fd, F, g, kp, b⟩ := c.ex
  exact pe_callS F (hr.mono hk) hg g kp b (fun σ => passAt tk σ) ha hdb he hpl
end
/-- such a def that leans on pins, on what runs around -/
structure CalleeG (P : Program) (w : World) (K : PySem.W.Frag) (mg : Str → Option Value) (base : Heap) (CX : CXT) (Γ : Around → Prop) (k : Nat) (x : Str) (ps : List Str) (sp : Pins → Sp) : Prop where
  ex : ∃ (f : Addr) (fd : FuncData), FnG P w K mg base CX Γ k f fd ps sp ∧ mg x = some (.ref f) ∧ PySem.W.keepIn K (.ref f) = true ∧ Binds K fd ps []
theorem FnG.mono {P : Program} {w : World} {K : PySem.W.Frag} {mg : Str → Option Value} {base : Heap} {CX : CXT} {Γ : Around → Prop} {j k : Nat} {f : Addr} {fd : FuncData} {ps : List Str} {sp : Pins → Sp} (F : FnG P w K mg base CX Γ k f fd ps sp) (h : k ≤ j) : FnG P w K mg base CX Γ j f fd ps sp :=
  ⟨F.many, fun pn A outer s H args us vs Q E room => F.go pn A outer s H args us vs Q E (room.mono h)⟩
section
variable {X : Cx} {j k : Nat} {x : Str} {ps : List Str} {sp : Pins → Sp} {Γ : Around → Prop} {pn : Pins} {e : Expr} {es : List Expr} {t : TA} {p pos : Pos} {W : WX}
theorem pe_g (c : CalleeG X.prog X.w X.K X.mg X.base CX0 Γ k x ps sp) (hr : RoomH j X.A) (g : Γ X.A) (hpn : ∀ q ∈ pn, q ∈ X.pn) (ha : PA X (e :: es) t) (hk : k ≤ j := by decide) (hg : Gl X x := by rfl) (hdb : (x == ("__debug__" : Str)) = false := by decide)
    (he : starEach (e :: es) X.env = (false, eval e X.env) :: starEach es X.env := by rfl) (hpl : (backTo pos (starEach es X.env)).any (·.1) = false := by rfl) : PE X (.Call (.Name x p) (e :: es) [] pos) (tCallS (sp pn) (fun _ => E0) t) := by
  obtain ⟨f, fd, F, gm, kp, b⟩ := c.ex
  exact pe_callG (F.mono hk) hr g hpn hg gm kp b (fun _ _ _ _ _ _ _ z => z.elim) ha hdb he hpl
end
theorem callee_mk {P : Program} {w : World} {K : PySem.W.Frag} {mg : Str → Option Value} {base : Heap} {CX : CXT} {k : Nat} {x : Str} {st : Stmt} {f : Addr} {fd : FuncData} {ps : List Str} {sp : Sp} (F : Fun K x x st f fd) (g : mg x = some (.ref f))
    (hb : ∀ (kV doc pm : Value) (an : Option Addr) (cdv ct : Value) (us : List Value), us.length = ps.length → bindArgs (PySem.W.fnOf x x (defArgs st) (defBody st) (defScope st) .none kV doc pm an cdv ct) ⟨us, []⟩ = pure (ps.zip us))
    (ok : FnOk P w K mg base CX k f fd ps sp) : Callee P w K mg base CX k x ps sp := ⟨f, fd, ok, g, F.kp, F.binds hb⟩
theorem calleeG_mk {P : Program} {w : World} {K : PySem.W.Frag} {mg : Str → Option Value} {base : Heap} {CX : CXT} {Γ : Around → Prop} {k : Nat} {x : Str} {st : Stmt} {f : Addr} {fd : FuncData} {ps : List Str} {sp : Pins → Sp} (F : Fun K x x st f fd) (g : mg x = some (.ref f))
    (hb : ∀ (kV doc pm : Value) (an : Option Addr) (cdv ct : Value) (us : List Value), us.length = ps.length → bindArgs (PySem.W.fnOf x x (defArgs st) (defBody st) (defScope st) .none kV doc pm an cdv ct) ⟨us, []⟩ = pure (ps.zip us))
    (ok : FnG P w K mg base CX Γ k f fd ps sp) : CalleeG P w K mg base CX Γ k x ps sp := ⟨f, fd, ok, g, F.kp, F.binds hb⟩

/-- the facts of the text that a walk leans on -/
structure Txt (fa : List He.Fa) (fn : List He.DefD) (base : Str) (es : List (Str × List Str)) (K : PySem.W.Frag) (mg : Str → Option Value) : Prop where
  says : He.SaysD fa fn K
  glo : ∀ x, (He.Fa.glo x).ok K = true → mg x = some (.ref (He.ga K x))
  free : ∀ x, (He.Fa.free x).ok K = true → mg x = none
  numb : ∀ x i, (He.Fa.int x i).ok K = true → ∃ t, mg x = some (.int i t)
  text : ∀ x z, (He.Fa.str x z).ok K = true → ∃ t, mg x = some (.str z t)
  err : errsB K base es = true
theorem txt_of {fa : List He.Fa} {fn : List He.DefD} {base : Str} {es : List (Str × List Str)} {K : PySem.W.Frag} {mg : Str → Option Value} {h : Heap} (X : K.In h) (G : h.Ns mainGlobals mg) (c : He.SaysD fa fn K) (e : errsB K base es = true) : Txt fa fn base es K mg :=
  ⟨c, fun _ q => He.glo_ok X G q, fun _ q => He.free_ok X G q, fun _ _ q => He.int_ok X G q, fun _ _ q => He.str_ok X G q, e⟩
section
variable {fa : List He.Fa} {fn : List He.DefD} {bs : Str} {es : List (Str × List Str)} {K : PySem.W.Frag} {mg : Str → Option Value}
theorem Txt.g (T : Txt fa fn bs es K mg) (i : Nat) {x : Str} (h : fa[i]? = some (.glo x) := by rfl) : mg x = some (.ref (He.ga K x)) := T.glo x (T.says.fact i h)
theorem Txt.n (T : Txt fa fn bs es K mg) (i : Nat) {x : Str} (h : fa[i]? = some (.free x) := by rfl) : mg x = none := T.free x (T.says.fact i h)
theorem Txt.i (T : Txt fa fn bs es K mg) (i : Nat) {x : Str} {z : Int} (h : fa[i]? = some (.int x z) := by rfl) : ∃ t, mg x = some (.int z t) := T.numb x z (T.says.fact i h)
theorem Txt.s (T : Txt fa fn bs es K mg) (i : Nat) {x z : Str} (h : fa[i]? = some (.str x z) := by rfl) : ∃ t, mg x = some (.str z t) := T.text x z (T.says.fact i h)
theorem Txt.base (T : Txt fa fn bs es K mg) : BaseC K (He.ga K bs) := baseB_ok (Bool.and_eq_true_iff.mp T.err).1
theorem Txt.kin (T : Txt fa fn bs es K mg) : Kin K bs (es.map (·.1)) := kinB_ok (Bool.and_eq_true_iff.mp (Bool.and_eq_true_iff.mp T.err).2).1
theorem Txt.each (T : Txt fa fn bs es K mg) : ∀ e ∈ es, ErrC K (He.ga K e.1) e.2 ∧ PySem.W.findIn K (.ref (He.ga K e.1)) "__init__" = some (some (.ref (He.ma K (He.ga K e.1) "__init__"))) ∧ PySem.W.typeIn K (.ref (He.ma K (He.ga K e.1) "__init__")) = some (.type "function") := fun e he => by
  have h := List.all_eq_true.mp (Bool.and_eq_true_iff.mp (Bool.and_eq_true_iff.mp T.err).2).2 e he
  obtain ⟨h1, h2⟩ := Bool.and_eq_true_iff.mp h
  exact ⟨errB_ok h2, (initB_ok h1).1, (initB_ok h1).2⟩
end

/-! ### heaps: all but one thing stands -/
def But (p : Addr) (H H' : Hp) : Prop := ∀ b o, b ≠ p → H b = some o → H' b = some o
theorem But.refl (p : Addr) (H : Hp) : But p H H := fun _ _ _ h => h
theorem But.trans {p : Addr} {H H1 H2 : Hp} (a : But p H H1) (b : But p H1 H2) : But p H H2 := fun c o n h => b c o n (a c o n h)
theorem But.new {p q : Addr} {H : Hp} {o : HO} (h : H q = none) : But p H (upd H q o) := fun b u _ e => by
  rw [upd_ne (ne_of_none e h)]
  exact e
theorem But.set {p : Addr} {H : Hp} {o : HO} : But p H (upd H p o) := fun b u n e => by
  rw [upd_ne n]
  exact e
theorem But.of_same {p : Addr} {H H' : Hp} (h : Same H H') : But p H H' := fun b o _ e => h b o e
theorem Same.new {q : Addr} {H : Hp} {o : HO} (h : H q = none) : Same H (upd H q o) := fun b u e => by
  rw [upd_ne (ne_of_none e h)]
  exact e

theorem But.seq {K : PySem.W.Frag} {p a : Addr} {H H' : Hp} {xs : List V} (b : But p H H') (n : a ≠ p) (h : SqL K H a xs) : SqL K H' a xs := by
  rcases h with (h | ⟨o, h⟩) | h
  · exact .inl (.inl (b a _ n h))
  · exact .inl (.inr ⟨o, b a _ n h⟩)
  · exact .inr h
theorem But.tup {K : PySem.W.Frag} {p a : Addr} {H H' : Hp} {xs : List V} (b : But p H H') (n : a ≠ p) (h : SqT K H a xs) : SqT K H' a xs := by
  rcases h with (h | ⟨o, h⟩) | h
  · exact .inl (.inl (b a _ n h))
  · exact .inl (.inr ⟨o, b a _ n h⟩)
  · exact .inr h
/-! ### the pen -/
def penL (c : Addr) (at_ dg ct fo : Int) : List (Key × V) := [(.inr "cells", .ref c), (.inr "at", .int at_), (.inr "digits", .int dg), (.inr "count", .int ct), (.inr "fold", .int fo)]
/-- a pen at p -/
def PenAt (H : Hp) (p : Addr) : Prop := ∃ (c : Addr) (ns : List Int) (at_ dg ct fo : Int), H p = some (.dK (penL c at_ dg ct fo)) ∧ H c = some (.lst (ns.map V.int)) ∧ ns.length ≤ 63 ∧ 0 ≤ at_ ∧ 0 ≤ dg ∧ 0 ≤ fo ∧ fo < 2147483648
section
variable {c : Addr} {a d n f z : Int}
theorem pen_cells : valV (penL c a d n f) (.inr "cells") = some (.ref c) := by kernel_rfl
theorem pen_at : valV (penL c a d n f) (.inr "at") = some (.int a) := by kernel_rfl
theorem pen_digits : valV (penL c a d n f) (.inr "digits") = some (.int d) := by kernel_rfl
theorem pen_count : valV (penL c a d n f) (.inr "count") = some (.int n) := by kernel_rfl
theorem pen_fold : valV (penL c a d n f) (.inr "fold") = some (.int f) := by kernel_rfl
theorem put_at : putK (penL c a d n f) (.inr "at") (.int z) = penL c z d n f := by kernel_rfl
theorem put_digits : putK (penL c a d n f) (.inr "digits") (.int z) = penL c a z n f := by kernel_rfl
theorem put_count : putK (penL c a d n f) (.inr "count") (.int z) = penL c a d z f := by kernel_rfl
theorem put_fold : putK (penL c a d n f) (.inr "fold") (.int z) = penL c a d n z := by kernel_rfl
theorem pen_made : mergeK [] [(.inr "cells", .ref c), (.inr "at", .int a), (.inr "digits", .int d), (.inr "count", .int n), (.inr "fold", .int f)] = penL c a d n f := by kernel_rfl
end
theorem PenAt.but {H H' : Hp} {p q : Addr} (P : PenAt H p) (b : But q H H') (h1 : p ≠ q) (h2 : ∀ c xs, H c = some (.lst xs) → q ≠ c ∨ (∀ n : List Int, xs ≠ n.map V.int)) : PenAt H' p := by
  obtain ⟨c, ns, a, d, n, f, e1, e2, r⟩ := P
  refine ⟨c, ns, a, d, n, f, b p _ h1 e1, b c _ ?_ e2, r⟩
  rcases h2 c _ e2 with h | h
  · exact h.symm
  · exact absurd rfl (h ns)
theorem PenAt.same {H H' : Hp} {p : Addr} (P : PenAt H p) (b : Same H H') : PenAt H' p := by
  obtain ⟨c, ns, a, d, n, f, e1, e2, r⟩ := P
  exact ⟨c, ns, a, d, n, f, b p _ e1, b c _ e2, r⟩

def spPen (K : PySem.W.Frag) : Sp := fun vs H Q _ => ∃ (a : Addr) (ns : List Int), vs = [.ref a] ∧ SqL K H a (ns.map V.int) ∧ ns.length ≤ 63 ∧ ∀ (p : Addr) (H' : Hp), PenAt H' p → H p = none → Same H H' → Q (.ref p) H'
def spDraw : Sp := fun vs H Q _ => ∃ (p : Addr) (m : Int), vs = [.ref p, .int m] ∧ PenAt H p ∧ 0 < m ∧ m < 1073741824 ∧ ∀ (r : Int) (H' : Hp), 0 ≤ r → r < m → PenAt H' p → But p H H' → Q (.int r) H'
def spPick (K : PySem.W.Frag) : Sp := fun vs H Q _ => ∃ (p l : Addr) (xs : List V), vs = [.ref p, .ref l] ∧ l ≠ p ∧ PenAt H p ∧ (SqL K H l xs ∨ SqT K H l xs) ∧ 0 < xs.length ∧ xs.length < 1000000 ∧ ∀ (i : Nat) (x : V) (H' : Hp), xs[i]? = some x → PenAt H' p → But p H H' → Q x H'
theorem fold_ok (z : Int) : 0 ≤ z % 2147483647 ∧ z % 2147483647 < 2147483648 := by
  have h1 := Int.emod_nonneg z (show (2147483647 : Int) ≠ 0 by decide)
  have h2 := Int.emod_lt_of_pos z (show (0 : Int) < 2147483647 by decide)
  omega
end Tc
namespace Tc
open PySem PySem.Spec PyProof.Rows L2
/-- the pen's fields read, written -/
theorem rd_pen {σ : L2.St} {H : Hp} {Q : VK} {p : Addr} {kvs : List (Key × V)} {x : Str} {v : V} {i : Nat} (h : σ[i]? = some (some (.ref p))) (e : H p = some (.dK kvs)) (hv : valV kvs (.inr x) = some v) (q : Q v H) : tDGet (tVar i) (tC (.str x)) σ H Q :=
  ⟨_, h, p, v, rfl, hv ▸ DGet.k (k := .inr x) e, q⟩
theorem wr_pen {σ : L2.St} {H : Hp} {D : Ends} {p : Addr} {kvs : List (Key × V)} {x : Str} {v : V} {i : Nat} (h : σ[i]? = some (some (.ref p))) (e : H p = some (.dK kvs)) (hl : kvs.length ≤ 1000) (q : D.nx σ (upd H p (.dK (putK kvs (.inr x) v)))) :
    tVar i σ H fun y H2 => tC (.str x) σ H2 fun z H3 => ∃ a H4, y = .ref a ∧ DPut H3 a z v H4 ∧ D.nx σ H4 :=
  ⟨_, h, p, _, rfl, DPut.k (k := .inr x) e (small1000 hl), q⟩
theorem penL_len {c : Addr} {a d n f : Int} : (penL c a d n f).length ≤ 1000 := by show 5 ≤ 1000; decide
end Tc
/-! The errors' own __init__: what it leaves; raise C(..) -/
namespace Tc
open PySem PySem.Spec PyProof.Rows L2
open L2H (RoomH PinOk)

/-- C.__init__(self, ..) stores its arguments, fs their names (the last stored first) -/
def spInit (K : PySem.W.Frag) (C : Addr) (n : Nat) (fs : List V → List (Str × V)) : Sp := fun vs H Q _ => ∃ (a : Addr) (xs : List V), vs = .ref a :: xs ∧ xs.length = n ∧ H a = some (exo a C none) ∧ OexC K C ∧
  ∀ (d : Addr) (H' : Hp), H d = none → H' a = some (exo a C (some d)) → H' d = some (exd d (fs xs)) → But a H H' → Q .non H'
/-- the same where nothing is stored -/
def spInit0 (K : PySem.W.Frag) (C : Addr) : Sp := fun vs H Q _ => ∃ a : Addr, vs = [.ref a] ∧ H a = some (exo a C none) ∧ OexC K C ∧ Q .non H
structure InitAt (P : Program) (w : World) (K : PySem.W.Frag) (mg : Str → Option Value) (base : Heap) (x : Str) (ps : List Str) (sp : Sp) : Prop where
  ex : ∃ fd : FuncData, FnOk P w K mg base CX0 1 (He.ma K (He.ga K x) "__init__") fd ps sp ∧ Binds K fd ps []
  oex : OexC K (He.ga K x)
  ini : PySem.W.findIn K (.ref (He.ga K x)) "__init__" = some (some (.ref (He.ma K (He.ga K x) "__init__")))
  typ : PySem.W.typeIn K (.ref (He.ma K (He.ga K x) "__init__")) = some (.type "function")
  glob : mg x = some (.ref (He.ga K x))
section
variable {X : Cx} {x : Str} {ps : List Str} {n : Nat} {fs : List V → List (Str × V)} {e : Expr} {es : List Expr} {ta : TA} {p pos : Pos} {j : Nat}
/-- C(e, ..) as the operand of raise -/
def tMade (C : Addr) (n : Nat) (fs : List V → List (Str × V)) (ta : TA) : L2.St → Hp → XK → Prop := fun σ H Q => ta σ H fun vs H1 => vs.length = n ∧ n ≤ 1000 ∧ ∀ (d : Addr) (H' : Hp), H1 d = none → H' d = some (.xd (fs vs)) → Same H1 H' → Q (.ref C) (some d) H'
theorem pmk_mono {X : Cx} {e : Expr} {t u : L2.St → Hp → XK → Prop} (h : PMk X e u) (w : ∀ σ H Q, t σ H Q → u σ H Q) : PMk X e t := fun pins s σ H Q I z => h pins s σ H Q I (w _ _ _ z)
theorem pmk_f (c : InitAt X.prog X.w X.K X.mg X.base x ps (spInit X.K (He.ga X.K x) n fs)) (hr : Room j X.A) (ha : PA X (e :: es) ta) (hm : ∀ σ H Q Q', ta σ H Q → (∀ vs H, Q vs H → Q' vs H) → ta σ H Q') (hk : 2 ≤ j := by decide) (hg : Gl X x := by rfl)
    (hdb : (x == ("__debug__" : Str)) = false := by decide) (he : starEach (e :: es) X.env = (false, eval e X.env) :: starEach es X.env := by rfl) (hpl : (backTo pos (starEach es X.env)).any (·.1) = false := by rfl) :
    PMk X (.Call (.Name x p) (e :: es) [] pos) (tMade (He.ga X.K x) n fs ta) := by
  obtain ⟨fd, F, b⟩ := c.ex
  refine pmk_mono (pmk_oex c.oex c.ini c.typ F (hr.mono hk) b .nil pass0 hg c.glob ha hdb he hpl) fun σ H Q h => hm _ _ _ _ h fun vs H1 ⟨hl, hn, k⟩ => ⟨by omega, fun a na => ?_⟩
  rw [List.append_nil]
  refine ⟨a, vs, rfl, hl, upd_same, c.oex, fun d H2 nd ea ed bt => ⟨rfl, d, fs vs, ea, ed, ?_, ?_⟩⟩
  · by_cases z : d = a
    · rw [z]; exact na
    · rw [upd_ne z] at nd; exact nd
  · have nda : d ≠ a := fun z => by rw [z, upd_same] at nd; cases nd
    have nd1 : H1 d = none := by rw [upd_ne nda] at nd; exact nd
    refine k d _ nd1 upd_same fun b o eb => ?_
    have nba := ne_of_none eb na
    rw [upd_ne (ne_of_none eb nd1), del_ne nba]
    exact bt b o nba (by rw [upd_ne nba]; exact eb)
/-- C() -/
def tMade0 (C : Addr) : L2.St → Hp → XK → Prop := fun _ H Q => Q (.ref C) none H
theorem pmk_f0 (c : InitAt X.prog X.w X.K X.mg X.base x ps (spInit0 X.K (He.ga X.K x))) (hr : Room j X.A) (hk : 2 ≤ j := by decide) (hg : Gl X x := by rfl) (hdb : (x == ("__debug__" : Str)) = false := by decide) :
    PMk X (.Call (.Name x p) [] [] pos) (tMade0 (He.ga X.K x)) := by
  obtain ⟨fd, F, b⟩ := c.ex
  refine pmk_mono (pmk_bare c.oex c.ini c.typ F (hr.mono hk) b pass0 hg c.glob hdb) fun σ H Q h a na => ⟨a, rfl, upd_same, c.oex, rfl, upd_same, ?_⟩
  have e : del (upd H a (exo a (He.ga X.K x) none)) a = H := by
    funext b
    by_cases z : b = a
    · rw [z, del_same, na]
    · rw [del_ne z, upd_ne z]
  rw [e]
  exact h
end
end Tc
/-! Lambdas without parameters that are kept (in tuples, lists) and called later, by other defs. -/
namespace Tc
open PySem PySem.Spec PyProof.Rows L2 LamX
open L2H (RoomH PinOk)

/-- what a lambda is made of, as the program's text has it -/
structure LamT where
  params : Arguments
  body : Expr
  scope : Scope
/-- the object of such a lambda, its code object at c -/
def LamO (f c : Addr) (q : Str) (l : LamT) (cl : List (Str × Addr)) : HO := .ext fun h => ∃ pm ctv : Value, h.get? f = some (PySem.W.kla_obj "<lambda>" q l.params l.body l.scope cl pm c ctv)
theorem lamO_ok {P : Program} {w : World} {H : Hp} {h : Heap} {f c : Addr} {q : Str} {l : LamT} {cl : List (Str × Addr)} {pm ctv : Value} (e : h.get? f = some (PySem.W.kla_obj "<lambda>" q l.params l.body l.scope cl pm c ctv)) : ObjOk P w H h f (LamO f c q l cl) :=
  ⟨⟨pm, ctv, e⟩, ⟨_, e⟩, fun _ _ ⟨a, b, z⟩ k => ⟨a, b, k _ z⟩⟩
theorem lamO_at {P : Program} {w : World} {H : Hp} {h : Heap} {f c : Addr} {q : Str} {l : LamT} {cl : List (Str × Addr)} (ok : HOk P w H h) (e : H f = some (LamO f c q l cl)) : ∃ pm ctv : Value, h.get? f = some (PySem.W.kla_obj "<lambda>" q l.params l.body l.scope cl pm c ctv) := by
  have x : ObjOk P w H h f (.ext fun h => ∃ pm ctv : Value, h.get? f = some (PySem.W.kla_obj "<lambda>" q l.params l.body l.scope cl pm c ctv)) := ok f _ e
  exact x.1
theorem lamO_ne {f c : Addr} {q : Str} {l : LamT} {cl : List (Str × Addr)} (ps : Array Value) : LamO f c q l cl ≠ .tbl ps := fun z => by
  unfold LamO at z
  cases z

/-! ### a lambda is made -/
/-- the lambda's object stands, its code is known -/
def MadeLam (X : Cx) (l : LamT) (H : Hp) (f : Addr) : Prop := ∃ c, H f = some (LamO f c (X.env.qual ++ "<lambda>") l (cloFrom X.env.cells l.scope.names [])) ∧ H c = some (CodeO c (X.env.qual ++ "<lambda>"))
def tLamO (X : Cx) (T : List (Addr × Str)) (l : LamT) : TE := fun _ H Q => Tabs T H ∧ ∀ f H1, ExtN H H1 → Tabs T H1 → H f = none → MadeLam X l H1 f → Q (.ref f) H1
section
variable {X : Cx} {pins : Pins} {σ : L2.St} {H : Hp} {s : Shared}
theorem pe_lam {T : List (Addr × Str)} {c P : Addr} {l : LamT} {pos : Pos} (L : LamS X.env.scope l.scope) (TB : TabB X.base X.mg c P) (hcode : X.env.code = .ref c) (hm : (P, X.env.qual ++ "<lambda>") ∈ T) (hu : ∀ p ∈ T, p.1 = P → p.2 = X.env.qual ++ "<lambda>")
    (hdef : defaultsOf l.params X.env = ([], []) := by rfl) : PE X (.Lambda l.params l.body l.scope pos) (tLamO X T l) := by
  refine ⟨fun pins s σ H Q I h => ?_⟩
  obtain ⟨hT, k⟩ := h
  obtain ⟨ps, hP, ht, ha⟩ := hT _ hm
  have there : s.heap.get? P = some { cls := .none, data := .fields ps } := I.hok P _ hP
  have bP := TB.bm.keeps I.bk
  refine PySem.W.kla_eval hdef ?_
  cases hc : codeAmong pos ps.toList with
  | some cv =>
    obtain ⟨c1, e1, e2⟩ := ha pos cv hc
    subst e1
    refine PySem.W.kla_makeFunctionHit (closure_ok (L.has I.ok)) I.ok.glob (I.mod.glob.keeps I.bk) hcode (TB.code.keeps I.bk) there ht hc bP fun ctv h1 tk kp sz => ?_
    have I1 : Inv X pins σ H { s with heap := h1, toks := tk } := I.kept kp
    have nf : H h1.objs.size = none := I1.hok.fresh (Nat.le_refl _)
    have I2 := I1.laid (t' := tk) (a := h1.objs.size) (o := LamO h1.objs.size c1 (X.env.qual ++ "<lambda>") l (cloFrom X.env.cells l.scope.names [])) (h' := h1.push (PySem.W.kla_obj "<lambda>" (X.env.qual ++ "<lambda>") l.params l.body l.scope (cloFrom X.env.cells l.scope.names []) ((X.mg "__name__").getD .none) c1 ctv))
      (fun b o e => Heap.get?_push_of_some _ e) (Nat.le_refl _) (lamO_ok (Heap.get?_push_size _ rfl))
    have sm : Same H (upd H h1.objs.size (LamO h1.objs.size c1 (X.env.qual ++ "<lambda>") l (cloFrom X.env.cells l.scope.names []))) := Same.new nf
    exact ⟨.ref h1.objs.size, _, I2, rfl, k _ _ (ExtN.of sm) (hT.ext sm) nf ⟨c1, upd_same, sm _ _ e2⟩⟩
  | none =>
    refine PySem.W.kla_makeFunction (closure_ok (L.has I.ok)) I.ok.glob (I.mod.glob.keeps I.bk) hcode (TB.code.keeps I.bk) there ht hc TB.gP bP fun c1 ctv h1 tk xt hge hlt hrec htb => ?_
    obtain ⟨c2, oc, vs, t, e2, hoc, hd, hv⟩ := hrec
    cases e2
    have nC : H c1 = none := I.hok.fresh hge
    have I1 := inv_table (t' := tk) (q := X.env.qual ++ "<lambda>") (more := #[rawInt pos.line, rawInt pos.col, .ref c1]) I hP (fun b o hb e => xt b o hb e) htb hge ⟨oc, vs, t, hoc, hd, hv⟩
    have old : ExtN H (upd (upd H P (.tbl (ps ++ #[rawInt pos.line, rawInt pos.col, .ref c1]))) c1 (CodeO c1 (X.env.qual ++ "<lambda>"))) := fun b o e n => by
      rw [upd_ne (ne_of_none e nC), upd_ne fun z => n ps ?_]
      · exact e
      · rw [z, hP] at e
        exact (Option.some.inj e).symm
    have ec : upd (upd H P (.tbl (ps ++ #[rawInt pos.line, rawInt pos.col, .ref c1]))) c1 (CodeO c1 (X.env.qual ++ "<lambda>")) c1 = some (CodeO c1 (X.env.qual ++ "<lambda>")) := upd_same
    have eP : upd (upd H P (.tbl (ps ++ #[rawInt pos.line, rawInt pos.col, .ref c1]))) c1 (CodeO c1 (X.env.qual ++ "<lambda>")) P = some (.tbl (ps ++ #[rawInt pos.line, rawInt pos.col, .ref c1])) := by rw [upd_ne (ne_of_none hP nC), upd_same]
    have tabs : Tabs T (upd (upd H P (.tbl (ps ++ #[rawInt pos.line, rawInt pos.col, .ref c1]))) c1 (CodeO c1 (X.env.qual ++ "<lambda>"))) := fun p hp => by
      by_cases hb : p.1 = P
      · have eL : (ps ++ #[rawInt pos.line, rawInt pos.col, .ref c1]).toList = ps.toList ++ [rawInt pos.line, rawInt pos.col, .ref c1] := by simp
        rw [hu p hp hb, hb]
        refine ⟨_, eP, by rw [eL]; exact PySem.TriplesOk_snoc _ _ _ _ ht, fun p2 cv z => ?_⟩
        rw [eL] at z
        rcases among_app _ ht z with z | z
        · obtain ⟨c0, q1, q2⟩ := ha p2 cv z
          exact ⟨c0, q1, old _ _ q2 codeO_ne⟩
        · exact ⟨c1, z, ec⟩
      · obtain ⟨qs, a1, a2, a3⟩ := hT p hp
        refine ⟨qs, by rw [upd_ne (ne_of_none a1 nC), upd_ne hb]; exact a1, a2, fun p2 cv z => ?_⟩
        obtain ⟨c0, q1, q2⟩ := a3 p2 cv z
        exact ⟨c0, q1, old _ _ q2 codeO_ne⟩
    have nf1 : H h1.objs.size = none := I.hok.fresh (Nat.le_trans hge (Nat.le_of_lt hlt))
    generalize upd (upd H P (.tbl (ps ++ #[rawInt pos.line, rawInt pos.col, .ref c1]))) c1 (CodeO c1 (X.env.qual ++ "<lambda>")) = H1 at I1 old ec tabs
    have nf : H1 h1.objs.size = none := I1.hok.fresh (Nat.le_refl _)
    have I2 := I1.laid (t' := tk) (a := h1.objs.size) (o := LamO h1.objs.size c1 (X.env.qual ++ "<lambda>") l (cloFrom X.env.cells l.scope.names [])) (h' := h1.push (PySem.W.kla_obj "<lambda>" (X.env.qual ++ "<lambda>") l.params l.body l.scope (cloFrom X.env.cells l.scope.names []) ((X.mg "__name__").getD .none) c1 ctv))
      (fun b o e => Heap.get?_push_of_some _ e) (Nat.le_refl _) (lamO_ok (Heap.get?_push_size _ rfl))
    have sm : Same H1 (upd H1 h1.objs.size (LamO h1.objs.size c1 (X.env.qual ++ "<lambda>") l (cloFrom X.env.cells l.scope.names []))) := Same.new nf
    exact ⟨.ref h1.objs.size, _, I2, rfl, k _ _ (old.trans (ExtN.of sm)) (tabs.ext sm) nf1 ⟨c1, upd_same, sm _ _ ec⟩⟩
end

/-! ### such an object is called -/
abbrev ActT := XK → Hp → VK → Prop
/-- from (outer0, s0, H0) on: whoever calls f() gets what tl tells -/
structure Act (P : Program) (w : World) (K : PySem.W.Frag) (mg : Str → Option Value) (base : Heap) (outer0 : List Env) (s0 : Shared) (H0 : Hp) (k : Nat) (f : Addr) (tl : ActT) : Prop where
  run : ∀ (A : Around) (outer : List Env) (s : Shared) (H : Hp) (Q : VK) (E : XK), Room k A → Env0 P w K mg base A outer s H → Un (frs outer0) [] H0 H s0.heap s.heap → s.os = s0.os → tl E H Q →
    codeAny (model P w) A (.call (.ref f) ⟨[], []⟩) (CR (L2.CX P w) outer P w H s Q E) s ∧ PySem.W.FnAt f s.heap
section
variable {X : Cx} {pins : Pins} {σ : L2.St} {H : Hp} {s : Shared}
/-- what is called later, told of a later state -/
theorem Act.later {k : Nat} {f : Addr} {tl : ActT} (I : Inv X pins σ H s) (hex : X.ex = []) (a : Act X.prog X.w X.K X.mg X.base X.outer X.s_0 X.H_0 k f tl) : Act X.prog X.w X.K X.mg X.base X.stack s H k f tl :=
  ⟨fun A outer s1 H1 Q E r e0 un os h => by
    have J := I.call' (ch := []) os un e0.hok e0.bare fun b z => absurd z (by simp)
    have b := J.base
    rw [hex] at b
    exact a.run A outer s1 H1 Q E r e0 b J.os h⟩
/-- the lambda that X made, as it stands now: its names have the values of X's slots -/
def tMade1 (X : Cx) (l : LamT) (t : XK → TE) (σ : L2.St) (f : Addr) : ActT := fun E HZ Q => MadeLam X l HZ f ∧ t E σ HZ Q
theorem act_of {k : Nat} {f : Addr} {l : LamT} {t : XK → TE} (I : Inv X pins σ H s) (L : LamS X.env.scope l.scope)
    (hbind : ∀ (q : Str) (cl : List (Str × Addr)) (pm cv ctv : Value), bindArgs (PySem.W.kla_fn "<lambda>" q l.params l.body l.scope cl pm cv ctv) ⟨[], []⟩ = pure [])
    (hbody : ∀ (A : Around) (outer : List Env) (s : Shared) (H : Hp) (E : XK) (c : Addr), Room k (A.deeper (lamEnv X l.scope s.heap.objs.size f c)) → PE (lamCx X A outer s H E l.scope f c) l.body (t E)) :
    Act X.prog X.w X.K X.mg X.base X.stack s H (k + 1) f (tMade1 X l t σ f) := by
  refine ⟨fun A outer s1 HZ Q E room e0 un _ h => ?_⟩
  obtain ⟨⟨c, hf, hc⟩, ht⟩ := h
  obtain ⟨pm, ctv, at1⟩ := lamO_at e0.hok hf
  obtain ⟨⟨oc, vs, t0, hoc, hdc, hvc⟩, _, _⟩ := (show ObjOk X.prog X.w HZ s1.heap c (CodeO c (X.env.qual ++ "<lambda>")) from e0.hok c _ hc)
  have lim : s1.heap.NoLimit := e0.mod.nolimit.keeps fun b o e => (e0.bs b o e).1
  refine ⟨PySem.W.kla_callFunE room.depth at1 rfl L.co L.gen rfl ⟨c, oc, vs, t0, rfl, hoc, hdc, hvc⟩ ?_, ⟨_, _, _, _, at1⟩⟩
  rw [hbind]
  refine wpAny_pure (wpAny_newFunctionEnv (fun y hy => (L.own y hy).2) (fun y hy => absurd hy (by simp)) (fun h1 hns hsb => ⟨lim.fresh _ hsb, ?_⟩) L.kind)
  have kp : ∀ b o, s1.heap.get? b = some o → h1.get? b = some o := fun b o e => hsb.extBut b o (Nat.ne_of_lt (Heap.lt_size e)) (Heap.get?_push_of_some _ e)
  have J : Inv (lamCx X A outer s1 HZ E l.scope f c) [] σ HZ { s1 with heap := h1, toks := s1.toks + ([] : List (Str × Value)).length } := lam_start2 I L e0 room.hd un hns kp
  refine PySem.W.kla_codeExpr (wpAny_mono ((hbody A outer s1 HZ E c (room.deeper _)).run [] _ σ HZ Q J ht) (fun u s2 hq => ?_) fun _ _ z => z)
  obtain ⟨v, H2, J2, rv, q⟩ := hq
  exact ⟨v, H2, J2.os, J2.bare, J2.base, J2.hok, rv, q⟩
end

/-! ### defs that get such objects -/
/-- a def's promise, told by what is known of the objects that it may call -/
structure FnA (P : Program) (w : World) (K : PySem.W.Frag) (mg : Str → Option Value) (base : Heap) (CX : CXT) (Γ : Around → Prop) (k ka : Nat) (f : Addr) (fd : FuncData) (ps : List Str) (sp : (Addr → ActT → Prop) → Sp) : Prop where
  many : ∀ O vs H Q E, sp O vs H Q E → vs.length = ps.length
  mono : ∀ (O O' : Addr → ActT → Prop) vs H Q E, (∀ g tl, O g tl → O' g tl) → sp O vs H Q E → sp O' vs H Q E
  go : ∀ (A : Around) (outer : List Env) (s : Shared) (H : Hp) (args : Args) (us : List Value) (vs : List V) (Q : VK) (E : XK), Room k A → Γ A → Env0 P w K mg base A outer s H → BindsTo s fd args (ps.zip us) → Vals vs us →
    sp (fun g tl => Act P w K mg base outer s H ka g tl) vs H Q E → codeAny (model P w) A (.call (.ref f) args) (CR CX outer P w H s Q E) s
theorem funA {P : Program} {w : World} {K : PySem.W.Frag} {mg : Str → Option Value} {base : Heap} {CX : CXT} {Γ : Around → Prop} {x qual : Str} {st : Stmt} {f : Addr} {fd : FuncData} {N ps : List Str} {k ka : Nat} {sp : (Addr → ActT → Prop) → Sp} (F : Fun K x qual st f fd) (S : FnScope N ps (defScope st))
    (many : ∀ O vs H Q E, sp O vs H Q E → vs.length = ps.length) (mono : ∀ (O O' : Addr → ActT → Prop) vs H Q E, (∀ g tl, O g tl → O' g tl) → sp O vs H Q E → sp O' vs H Q E)
    (hbody : ∀ (cdv : Value) (A : Around) (outer : List Env) (s : Shared) (H : Hp) (vs : List V) (Q : VK) (E : XK), Γ A → Room k (A.deeper (envOfC qual (defScope st) s.heap.objs.size f cdv)) → sp (fun g tl => Act P w K mg base outer s H ka g tl) vs H Q E →
      ∃ t, PSs (cxOf CX P w K mg base N qual (defScope st) f cdv A outer s H E) (defBody st) t ∧ t { nx := fun _ H' => Q .non H', rt := Q } (start N vs) H) : FnA P w K mg base CX Γ (k + 1) ka f fd ps sp := by
  obtain ⟨oc, od, kV, doc, pm, an, cdv, ct, osl, e, lk, hcd⟩ := F.ex
  subst e
  exact ⟨many, mono, fun A outer s H args us vs Q E room g e0 b r h => run_ofS lk hcd S room e0 b r (many _ _ _ _ _ h) fun room2 => hbody cdv A outer s H vs Q E g room2 h⟩
section
variable {X : Cx} {CX : CXT} {Γ : Around → Prop} {k ka j : Nat} {f : Addr} {fd : FuncData} {ps : List Str} {sp : (Addr → ActT → Prop) → Sp} {E : L2.St → XK} {x : Str} {q pos : Pos} {e : Expr} {es : List Expr} {t : TA}
/-- the objects that X's caller told of -/
def Told (X : Cx) (ka : Nat) : Addr → ActT → Prop := fun g tl => Act X.prog X.w X.K X.mg X.base X.outer X.s_0 X.H_0 ka g tl
theorem pe_callA (F : FnA X.prog X.w X.K X.mg X.base CX Γ k ka f fd ps sp) (hr : Room k X.A) (g : Γ X.A) (hex : X.ex = []) (hg : Gl X x) (hm : X.mg x = some (.ref f)) (hk : PySem.W.keepIn X.K (.ref f) = true) (hb : Binds X.K fd ps [])
    (hx : ∀ σ, PassesAt CX X σ (E σ)) (ha : PA X (e :: es) t) (hdb : (x == ("__debug__" : Str)) = false := by decide) (he : starEach (e :: es) X.env = (false, eval e X.env) :: starEach es X.env := by rfl) (hpl : (backTo pos (starEach es X.env)).any (·.1) = false := by rfl) :
    PE X (.Call (.Name x q) (e :: es) [] pos) (tCallS (sp (Told X ka)) E t) := by
  refine ⟨fun pins s σ H Q I h => wpAny_Call_Name_kw (ld_glob I hg hm ?_ hdb)⟩
  refine PySem.W.callWith_K (h₀ := X.base) I.ok.mod.kin hk (thn (ha.run pos pins s σ H _ I h) fun us s1 ⟨vs, H1, I1, r, z⟩ => ⟨I1.kIn, ?_⟩) he hpl
  have hl : us.length = ps.length := by rw [← r.length]; exact F.many _ _ _ _ _ z
  have b := hb s1 us I1.kIn (by rw [List.append_nil]; exact hl)
  rw [List.append_nil] at b
  have z2 := F.mono _ (fun g tl => Act X.prog X.w X.K X.mg X.base X.stack s1 H1 ka g tl) vs H1 Q (E σ) (fun g tl a => Act.later I1 hex a) z
  refine wpAny_call (codeAny_mono (F.go X.A X.stack s1 H1 ⟨us, []⟩ us vs Q (E σ) hr g I1.env0 b r z2) fun r s' hq => ?_)
  match r, hq with
  | .error e, hq => exact hx σ pins H1 s1 e s' I1 hq
  | .ok (.ret u), hq => exact I1.after hq
/-- a lambda of X that may be handed on -/
structure Lam1 (X : Cx) (ka : Nat) (l : LamT) (t : XK → TE) : Prop where
  s : LamS X.env.scope l.scope
  bind : ∀ (q : Str) (cl : List (Str × Addr)) (pm cv ctv : Value), bindArgs (PySem.W.kla_fn "<lambda>" q l.params l.body l.scope cl pm cv ctv) ⟨[], []⟩ = pure []
  body : ∀ (A : Around) (outer : List Env) (s : Shared) (H : Hp) (E : XK) (f c : Addr), Room ka (A.deeper (lamEnv X l.scope s.heap.objs.size f c)) → PE (lamCx X A outer s H E l.scope f c) l.body (t E)
/-- the lambdas ls of X, made and standing, with X's slots σ -/
def Mine (X : Cx) (ls : List (LamT × (XK → TE))) (σ : L2.St) (H : Hp) : Addr → ActT → Prop := fun g tl => ∃ l ∈ ls, MadeLam X l.1 H g ∧ tl = tMade1 X l.1 l.2 σ g
def tCallM (X : Cx) (ls : List (LamT × (XK → TE))) (sp : (Addr → ActT → Prop) → Sp) (E : L2.St → XK) (t : TA) : TE := fun σ H Q => t σ H fun vs H1 => sp (Mine X ls σ H1) vs H1 Q (E σ)
theorem pe_callM (ls : List (LamT × (XK → TE))) (hls : ∀ l ∈ ls, Lam1 X ka l.1 l.2) (F : FnA X.prog X.w X.K X.mg X.base CX Γ k (ka + 1) f fd ps sp) (hr : Room k X.A) (g : Γ X.A) (hg : Gl X x) (hm : X.mg x = some (.ref f)) (hk : PySem.W.keepIn X.K (.ref f) = true) (hb : Binds X.K fd ps [])
    (hx : ∀ σ, PassesAt CX X σ (E σ)) (ha : PA X (e :: es) t) (hdb : (x == ("__debug__" : Str)) = false := by decide) (he : starEach (e :: es) X.env = (false, eval e X.env) :: starEach es X.env := by rfl) (hpl : (backTo pos (starEach es X.env)).any (·.1) = false := by rfl) :
    PE X (.Call (.Name x q) (e :: es) [] pos) (tCallM X ls sp E t) := by
  refine ⟨fun pins s σ H Q I h => wpAny_Call_Name_kw (ld_glob I hg hm ?_ hdb)⟩
  refine PySem.W.callWith_K (h₀ := X.base) I.ok.mod.kin hk (thn (ha.run pos pins s σ H _ I h) fun us s1 ⟨vs, H1, I1, r, z⟩ => ⟨I1.kIn, ?_⟩) he hpl
  have hl : us.length = ps.length := by rw [← r.length]; exact F.many _ _ _ _ _ z
  have b := hb s1 us I1.kIn (by rw [List.append_nil]; exact hl)
  rw [List.append_nil] at b
  have z2 := F.mono _ (fun g tl => Act X.prog X.w X.K X.mg X.base X.stack s1 H1 (ka + 1) g tl) vs H1 Q (E σ) (fun g tl ⟨l, hl, _, e⟩ => by
    subst e
    exact act_of I1 (hls l hl).s (hls l hl).bind fun A outer s H E c hr => (hls l hl).body A outer s H E g c hr) z
  refine wpAny_call (codeAny_mono (F.go X.A X.stack s1 H1 ⟨us, []⟩ us vs Q (E σ) hr g I1.env0 b r z2) fun r s' hq => ?_)
  match r, hq with
  | .error e, hq => exact hx σ pins H1 s1 e s' I1 hq
  | .ok (.ret u), hq => exact I1.after hq
/-- a(), a an object that the caller told of -/
def tActs (O : Addr → ActT → Prop) (i : Nat) (W : WX) : TE := fun σ H Q => ∃ (g : Addr) (tl : ActT), σ[i]? = some (some (.ref g)) ∧ O g tl ∧ tl (WE W σ) H Q
theorem pe_acts {W : WX} {i : Nat} {a : Str} {p1 p2 : Pos} {O : Addr → ActT → Prop} (hr : Room ka X.A) (hex : X.ex = []) (tk : Takes X W) (hv : PE X (.Name a p1) (tVar i)) (hO : ∀ g tl, O g tl → Told X ka g tl) : PE X (.Call (.Name a p1) [] [] p2) (tActs O i W) := by
  refine ⟨fun pins s σ H Q I h => ?_⟩
  obtain ⟨g, tl, hs, hT, ht⟩ := h
  refine wpAny_Call_Name_kw (thn (hv.run pins s σ H (fun v H1 => v = .ref g ∧ H1 = H) I ⟨.ref g, hs, rfl, rfl⟩) fun u s1 hq => ?_)
  obtain ⟨v, H1, I1, rv, ev, eH⟩ := hq
  subst ev
  rw [eH] at I1
  obtain rfl : u = Value.ref g := rv
  obtain ⟨go, at1⟩ := (Act.later I1 hex (hO _ _ hT)).run X.A X.stack s1 H Q (WE W σ) hr I1.env0 Un.refl rfl ht
  refine PySem.W.callWith_F0 at1 (wpAny_call (codeAny_mono go fun r s' hq => ?_))
  match r, hq with
  | .error e, hq => exact passAt tk σ pins H s1 e s' I1 hq
  | .ok (.ret u), hq => exact I1.after hq
end
/-- a def by name that gets such objects -/
structure CalleeA (P : Program) (w : World) (K : PySem.W.Frag) (mg : Str → Option Value) (base : Heap) (CX : CXT) (Γ : Around → Prop) (k ka : Nat) (x : Str) (ps : List Str) (sp : (Addr → ActT → Prop) → Sp) : Prop where
  ex : ∃ (f : Addr) (fd : FuncData), FnA P w K mg base CX Γ k ka f fd ps sp ∧ mg x = some (.ref f) ∧ PySem.W.keepIn K (.ref f) = true ∧ Binds K fd ps []
theorem calleeA_mk {P : Program} {w : World} {K : PySem.W.Frag} {mg : Str → Option Value} {base : Heap} {CX : CXT} {Γ : Around → Prop} {k ka : Nat} {x : Str} {st : Stmt} {f : Addr} {fd : FuncData} {ps : List Str} {sp : (Addr → ActT → Prop) → Sp} (F : Fun K x x st f fd) (g : mg x = some (.ref f))
    (hb : ∀ (kV doc pm : Value) (an : Option Addr) (cdv ct : Value) (us : List Value), us.length = ps.length → bindArgs (PySem.W.fnOf x x (defArgs st) (defBody st) (defScope st) .none kV doc pm an cdv ct) ⟨us, []⟩ = pure (ps.zip us))
    (ok : FnA P w K mg base CX Γ k ka f fd ps sp) : CalleeA P w K mg base CX Γ k ka x ps sp := ⟨f, fd, ok, g, F.kp, F.binds hb⟩
section
variable {X : Cx} {Γ : Around → Prop} {k ka j : Nat} {x : Str} {ps : List Str} {sp : (Addr → ActT → Prop) → Sp} {q pos : Pos} {e : Expr} {es : List Expr} {t : TA}
theorem pe_a (c : CalleeA X.prog X.w X.K X.mg X.base CX0 Γ k ka x ps sp) (hr : Room j X.A) (g : Γ X.A) (ha : PA X (e :: es) t) (hk : k ≤ j := by decide) (hex : X.ex = [] := by rfl) (hg : Gl X x := by rfl) (hdb : (x == ("__debug__" : Str)) = false := by decide)
    (he : starEach (e :: es) X.env = (false, eval e X.env) :: starEach es X.env := by rfl) (hpl : (backTo pos (starEach es X.env)).any (·.1) = false := by rfl) : PE X (.Call (.Name x q) (e :: es) [] pos) (tCallS (sp (Told X ka)) (fun _ => E0) t) := by
  obtain ⟨f, fd, F, gm, kp, b⟩ := c.ex
  exact pe_callA F (hr.mono hk) g hex hg gm kp b (fun _ _ _ _ _ _ _ z => z.elim) ha hdb he hpl
theorem pe_m (c : CalleeA X.prog X.w X.K X.mg X.base CX0 Γ k (ka + 1) x ps sp) (ls : List (LamT × (XK → TE))) (hls : ∀ l ∈ ls, Lam1 X ka l.1 l.2) (hr : Room j X.A) (g : Γ X.A) (ha : PA X (e :: es) t) (hk : k ≤ j := by decide) (hg : Gl X x := by rfl)
    (hdb : (x == ("__debug__" : Str)) = false := by decide) (he : starEach (e :: es) X.env = (false, eval e X.env) :: starEach es X.env := by rfl) (hpl : (backTo pos (starEach es X.env)).any (·.1) = false := by rfl) : PE X (.Call (.Name x q) (e :: es) [] pos) (tCallM X ls sp (fun _ => E0) t) := by
  obtain ⟨f, fd, F, gm, kp, b⟩ := c.ex
  exact pe_callM ls hls F (hr.mono hk) g hg gm kp b (fun _ _ _ _ _ _ _ z => z.elim) ha hdb he hpl
end
end Tc
/-! Plain data: none, bools, ints, texts and tuples of these; is True, is False; types; _law_is. -/
namespace Tc
open PySem PySem.Spec PyProof.Rows L2 LamX

/-! ### all but the tables of code objects stays -/
section
variable {K : PySem.W.Frag} {H H' : Hp} {a : Addr} {xs : List V}
theorem grow_seq (g : ExtN H H') (h : SqL K H a xs) : SqL K H' a xs := by
  rcases h with (h | ⟨o, h⟩) | h
  · exact .inl (.inl (g a _ h fun _ z => by cases z))
  · exact .inl (.inr ⟨o, g a _ h fun _ z => by cases z⟩)
  · exact .inr h
theorem grow_tup (g : ExtN H H') (h : SqT K H a xs) : SqT K H' a xs := by
  rcases h with (h | ⟨o, h⟩) | h
  · exact .inl (.inl (g a _ h fun _ z => by cases z))
  · exact .inl (.inr ⟨o, g a _ h fun _ z => by cases z⟩)
  · exact .inr h
end
mutual
theorem grow_dp {K : PySem.W.Frag} {H H' : Hp} (g : ExtN H H') : ∀ (d : PyData) {v : V}, Dp K H v d → Dp K H' v d
  | .none, _, h => by cases h; exact .non
  | .bool b, _, h => by cases h; exact .bl b
  | .int i, _, h => by cases h; exact .int i
  | .str x, _, h => by cases h; exact .str x
  | .list ds, _, h => by
    cases h with
    | lst q a => exact .lst (grow_seq g q) (grow_dps g ds a)
  | .tuple ds, _, h => by
    cases h with
    | tup q a => exact .tup (grow_tup g q) (grow_dps g ds a)
  | .dict _, _, h => by cases h
theorem grow_dps {K : PySem.W.Frag} {H H' : Hp} (g : ExtN H H') : ∀ (ds : List PyData) {vs : List V}, DpAll K H vs ds → DpAll K H' vs ds
  | [], _, h => by cases h; exact .nil
  | d :: ds, _, h => by
    cases h with
    | cons a b => exact .cons (grow_dp g d a) (grow_dps g ds b)
end
theorem dps_len {K : PySem.W.Frag} {H : Hp} : ∀ {ds : List PyData} {vs : List V}, DpAll K H vs ds → vs.length = ds.length
  | [], _, h => by cases h; rfl
  | d :: ds, _, h => by
    cases h with
    | cons a b => exact congrArg Nat.succ (dps_len b)
theorem dps_get {K : PySem.W.Frag} {H : Hp} : ∀ {ds : List PyData} {vs : List V} {i : Nat} {v : V}, DpAll K H vs ds → vs[i]? = some v → ∃ d, ds[i]? = some d ∧ Dp K H v d
  | [], _, _, _, h, e => by cases h; simp at e
  | d :: ds, _, i, v, h, e => by
    cases h with
    | cons a b =>
      cases i with
      | zero => cases e; exact ⟨d, rfl, a⟩
      | succ i =>
        rw [List.getElem?_cons_succ] at e ⊢
        exact dps_get b e

/-! ### plain data -/
mutual
def plain : PyData → Bool
  | .none | .bool _ | .int _ => true
  | .str x => decide (x.length ≤ 100000)
  | .tuple xs => decide (xs.length ≤ 100000) && plainAll xs
  | _ => false
def plainAll : List PyData → Bool
  | [] => true
  | x :: xs => plain x && plainAll xs
end
theorem plain_get : ∀ {ds : List PyData} {i : Nat} {d : PyData}, plainAll ds = true → ds[i]? = some d → plain d = true
  | [], _, _, _, e => by simp at e
  | x :: xs, i, d, h, e => by
    have h' : plain x = true ∧ plainAll xs = true := by simpa only [plainAll, Bool.and_eq_true] using h
    cases i with
    | zero => cases e; exact h'.1
    | succ i => exact plain_get h'.2 (by simpa using e)
theorem depth_get : ∀ {ds : List PyData} {i : Nat} {d : PyData} {n : Nat}, PyData.depthAll ds ≤ n → ds[i]? = some d → d.depth ≤ n
  | [], _, _, _, _, e => by simp at e
  | x :: xs, i, d, n, h, e => by
    simp only [PyData.depthAll] at h
    cases i with
    | zero => cases e; omega
    | succ i => exact depth_get (by omega) (by simpa using e : xs[i]? = some d)
/-- the type of plain data -/
def tyD : PyData → String
  | .none => "NoneType" | .bool _ => "bool" | .int _ => "int" | .str _ => "str" | .list _ => "list" | .tuple _ => "tuple" | .dict _ => "dict"
theorem ty_dp {K : PySem.W.Frag} {H : Hp} {v : V} {d : PyData} (h : Dp K H v d) : TyX K H v (.type (tyD d)) := by
  cases h with
  | non => exact .base .non
  | bl b => exact .base (.bl b)
  | int i => exact .base (.int i)
  | str x => exact .base (.str x)
  | lst q _ =>
    rcases q with (q | ⟨o, q⟩) | ⟨o, its, n, q, c, _⟩
    · exact .base (.lst q)
    · exact .base (.frz q)
    · exact .kList q c
  | tup q _ =>
    rcases q with (q | ⟨o, q⟩) | ⟨o, its, n, q, c, _⟩
    · exact .base (.tup q)
    · exact .fTuple q
    · exact .kTuple q c
def isTup : PyData → Bool
  | .tuple _ => true
  | _ => false
def isStr : PyData → Bool
  | .str _ => true
  | _ => false
def isNum : PyData → Bool
  | .int _ | .bool _ => true
  | _ => false
def isBoo : PyData → Bool
  | .bool _ => true
  | _ => false
theorem kit_tuple {K : PySem.W.Frag} {d : PyData} (h : plain d = true) : PySem.W.kitOne K (.type (tyD d)) (.type "tuple") = some (isTup d) := by
  cases d with
  | none => exact kit_ty (a := "NoneType") (b := "tuple") (r := false) (by decide +kernel)
  | bool b => exact kit_ty (a := "bool") (b := "tuple") (r := false) (by decide +kernel)
  | int i => exact kit_ty (a := "int") (b := "tuple") (r := false) (by decide +kernel)
  | str x => exact kit_ty (a := "str") (b := "tuple") (r := false) (by decide +kernel)
  | tuple xs => exact kit_ty (a := "tuple") (b := "tuple") (r := true) (by decide +kernel)
  | list xs => simp [plain] at h
  | dict xs => simp [plain] at h
theorem kit_str {K : PySem.W.Frag} {d : PyData} (h : plain d = true) : PySem.W.kitOne K (.type (tyD d)) (.type "str") = some (isStr d) := by
  cases d with
  | none => exact kit_ty (a := "NoneType") (b := "str") (r := false) (by decide +kernel)
  | bool b => exact kit_ty (a := "bool") (b := "str") (r := false) (by decide +kernel)
  | int i => exact kit_ty (a := "int") (b := "str") (r := false) (by decide +kernel)
  | str x => exact kit_ty (a := "str") (b := "str") (r := true) (by decide +kernel)
  | tuple xs => exact kit_ty (a := "tuple") (b := "str") (r := false) (by decide +kernel)
  | list xs => simp [plain] at h
  | dict xs => simp [plain] at h
theorem kit_int {K : PySem.W.Frag} {d : PyData} (h : plain d = true) : PySem.W.kitOne K (.type (tyD d)) (.type "int") = some (isNum d) := by
  cases d with
  | none => exact kit_ty (a := "NoneType") (b := "int") (r := false) (by decide +kernel)
  | bool b => exact kit_ty (a := "bool") (b := "int") (r := true) (by decide +kernel)
  | int i => exact kit_ty (a := "int") (b := "int") (r := true) (by decide +kernel)
  | str x => exact kit_ty (a := "str") (b := "int") (r := false) (by decide +kernel)
  | tuple xs => exact kit_ty (a := "tuple") (b := "int") (r := false) (by decide +kernel)
  | list xs => simp [plain] at h
  | dict xs => simp [plain] at h
theorem kit_bool {K : PySem.W.Frag} {d : PyData} (h : plain d = true) : PySem.W.kitOne K (.type (tyD d)) (.type "bool") = some (isBoo d) := by
  cases d with
  | none => exact kit_ty (a := "NoneType") (b := "bool") (r := false) (by decide +kernel)
  | bool b => exact kit_ty (a := "bool") (b := "bool") (r := true) (by decide +kernel)
  | int i => exact kit_ty (a := "int") (b := "bool") (r := false) (by decide +kernel)
  | str x => exact kit_ty (a := "str") (b := "bool") (r := false) (by decide +kernel)
  | tuple xs => exact kit_ty (a := "tuple") (b := "bool") (r := false) (by decide +kernel)
  | list xs => simp [plain] at h
  | dict xs => simp [plain] at h

/-! ### x is True, x is False -/
def rIsTF : R2 := fun x y H Q => ∃ b : Bool, y = .bl b ∧ Q (.bl (decide (x = .bl b))) H
theorem op_isTF {X : Cx} : OpR X (compareOp .Is) rIsTF := by
  intro pins s σ H x y v u Q I rx ry h
  obtain ⟨b, rfl, q⟩ := h
  cases (show u = Value.bool b from ry)
  have other : ∀ {v : Value}, plainIs v (.bool b) = true → v ≠ .bool b → x ≠ .bl b → wpAny (model X.prog X.w) X.A (compareOp .Is v (.bool b)) (EP X pins σ Q) X.xe s := fun hp hne hx =>
    wpAny_is_other hp hne ⟨.bl false, H, I, rfl, by simpa [hx] using q⟩
  cases x with
  | non => cases rx; exact other rfl (fun z => nomatch z) fun z => nomatch z
  | bl c =>
    cases (show v = Value.bool c from rx)
    by_cases e : c = b
    · subst e
      exact wpAny_is_self rfl ⟨.bl true, H, I, rfl, by simpa using q⟩
    · exact other rfl (fun z => e (Value.bool.inj z)) fun z => e (V.bl.inj z)
  | int i => obtain ⟨t, rfl⟩ := rx; exact other rfl (fun z => nomatch z) fun z => nomatch z
  | str i => obtain ⟨t, rfl⟩ := rx; exact other rfl (fun z => nomatch z) fun z => nomatch z
  | byt i => obtain ⟨t, rfl⟩ := rx; exact other rfl (fun z => nomatch z) fun z => nomatch z
  | flt i => obtain ⟨t, rfl⟩ := rx; exact other rfl (fun z => nomatch z) fun z => nomatch z
  | ref i => cases rx; exact other rfl (fun z => nomatch z) fun z => nomatch z
  | ty i => cases rx; exact other rfl (fun z => nomatch z) fun z => nomatch z

theorem plain_tup {ds : List PyData} (h : plain (.tuple ds) = true) : ds.length ≤ 100000 ∧ plainAll ds = true := by
  simpa only [plain, Bool.and_eq_true, decide_eq_true_eq] using h
theorem if_no {p : Bool} {A B : Prop} (h : p = false) (k : B) : if p = true then A else B := by
  rw [h]
  exact k
theorem if_yes {p : Bool} {A B : Prop} (h : p = true) (k : A) : if p = true then A else B := by
  rw [h]
  exact k
theorem bl_same {Q : VK} {H : Hp} {p : Bool} (h : p = true) (k : Q (.bl true) H) : Q (.bl p) H := by
  rw [h]
  exact k
def rLn (K : PySem.W.Frag) : List V → Hp → VK → Prop := fun xs H Q => ∃ (p : Addr) (ys : List V), xs = [.ref p] ∧ (SqL K H p ys ∨ SqT K H p ys) ∧ Q (.int ys.length) H
theorem call_ln {X : Cx} : CallR X (.builtin "len") (rLn X.K) := call_len_seq
/-! ### numbers, texts of the module -/
section
variable {X : Cx} {x : Str} {pos : Pos}
theorem pe_gi {i : Int} (h : ∃ t, X.mg x = some (.int i t)) (hg : Gl X x := by rfl) (hd : (x == ("__debug__" : Str)) = false := by decide) : PE X (.Name x pos) (tC (.int i)) := by
  obtain ⟨t, e⟩ := h
  exact pe_glob hg e ⟨t, rfl⟩ hd
theorem pe_gs {z : Str} (h : ∃ t, X.mg x = some (.str z t)) (hg : Gl X x := by rfl) (hd : (x == ("__debug__" : Str)) = false := by decide) : PE X (.Name x pos) (tC (.str z)) := by
  obtain ⟨t, e⟩ := h
  exact pe_glob hg e ⟨t, rfl⟩ hd
end
/-! ### rules told by the program's fragment alone -/
section
variable {X : Cx} {K : PySem.W.Frag} {o e : Expr} {es : List Expr} {to te : TE} {t : TA} {apos cpos pos : Pos} {a : Addr} {cls : Value} {d : Option Addr} {n : Str}
theorem pe_app (hK : X.K = K) (ho : PE X o to) (ha : PA X (e :: es) t)
    (hbase : attributeBase o "append" X.env (eval o X.env) = eval o X.env := by rfl)
    (hfew : ((backTo cpos (starEach (e :: es) X.env)).all (fun x => !x.1) && (backToKw cpos (keywordEach [] X.env)).all (fun x => x.1.isSome)
      && decide ((e :: es).length + ([] : List Keyword).length + (if ([] : List Keyword).isEmpty then 0 else 1) < 30)) = true := by rfl)
    (hline : (apos.endLine == cpos.line) = true := by rfl) (hs : starEach (e :: es) X.env = (false, eval e X.env) :: starEach es X.env := by rfl) (hplain : (backTo cpos (starEach es X.env)).any (·.1) = false := by rfl) :
    PE X (.Call (.Attribute o "append" apos) (e :: es) [] cpos) (tBM K "list" rAppend to t) := by
  subst hK
  exact pe_bm PySem.F.plainAttrs_list PySem.F.slot_list_append PySem.F.type_list_append mt_append ho ha hbase hfew hline hs hplain
theorem pe_fldK (hK : X.K = K) (hh : HeldAt X a cls d) (he : PE X e te) (hb : attributeBase e n X.env (eval e X.env) = eval e X.env := by rfl) : PE X (.Attribute e n pos) (tFldX K a cls d n te) := by
  subst hK
  exact pe_fldX hh he hb
end
/-- _law_is of equal data -/
def spIs (K : PySem.W.Frag) (n : Nat) : Sp := fun vs H Q _ => ∃ (a b : V) (d : PyData), vs = [a, b] ∧ Dp K H a d ∧ Dp K H b d ∧ plain d = true ∧ d.depth ≤ n ∧ d.depth ≤ 60 ∧ ∀ H', Same H H' → Q (.bl true) H'
end Tc
/-! t[::-1] of a tuple; list.extend by a tuple -/
namespace Tc
open PySem PySem.Spec PyProof.Rows L2 LamX HT
section
variable {prog : Program} {w : World} {A : Around} {E : Value → Shared → Prop} {s : Shared}
theorem adjust_rev (n : Nat) : Builtin.Slice.sliceAdjust none none (-1) (n : Int) = ((n : Int) - 1, -1) := by
  unfold Builtin.Slice.sliceAdjust
  have h1 : ((-1 : Int) < 0) := by omega
  simp only [h1, if_true]
theorem places_rev (n : Nat) : Builtin.Slice.slicePlaces ((n : Int) - 1) (-1) (-1) = n := by
  unfold Builtin.Slice.slicePlaces
  have h1 : ¬ ((-1 : Int) > 0) := by omega
  simp only [h1, if_false]
  rw [show (-(-1) : Int) = 1 by decide, Int.ediv_one]
  split <;> omega
theorem sliceApplied_rev {sl : Addr} {vl vu vs : Value} {n : Nat} {Q : Int × Int × Nat → Shared → Prop} (hs : s.heap.IsSliceOf sl vl vu vs) (pl : IsPart vl none) (pu : IsPart vu none) (ps : IsPart vs (some (-1)))
    (h : Q ((n : Int) - 1, -1, n) s) : wpAny (model prog w) A (Builtin.Slice.sliceApplied (.ref sl) (pure (n : Int))) Q E s := by
  obtain ⟨os, hos, hcs, hds⟩ := id hs
  unfold Builtin.Slice.sliceApplied Builtin.Slice.sliceFields
  refine wpAny_bind (wpAny_bind (wpAny_field hos hds (x := vl) rfl (wpAny_bind (wpAny_field hos hds (x := vu) rfl (wpAny_bind (wpAny_field hos hds (x := vs) rfl (wpAny_pure ?_)))))))
  refine wpAny_bind (slicePart_ ps ?_)
  show wpAny _ _ (if ((-1 : Int) == 0) = true then _ else _) _ _ s
  rw [if_neg (by decide)]
  refine wpAny_bind (slicePart_ pl (wpAny_bind (slicePart_ pu (wpAny_bind (wpAny_pure ?_)))))
  show wpAny _ _ (match Builtin.Slice.sliceAdjust none none (-1) (n : Int) with | (lo, hi) => pure (lo, (-1 : Int), Builtin.Slice.slicePlaces lo hi (-1))) _ _ s
  rw [adjust_rev n]
  show wpAny _ _ (pure ((n : Int) - 1, (-1 : Int), Builtin.Slice.slicePlaces ((n : Int) - 1) (-1) (-1))) _ _ s
  rw [places_rev]
  exact wpAny_pure h
theorem pick_rev (xs : Array Value) : ((List.range xs.size).filterMap fun (m : Nat) => xs[(((xs.size : Int) - 1) + (m : Int) * (-1)).toNat]?).toArray = xs.toList.reverse.toArray := by
  congr 1
  have e : (List.range xs.size).filterMap (fun (m : Nat) => xs[(((xs.size : Int) - 1) + (m : Int) * (-1)).toNat]?) = ((List.range xs.size).map (fun k => xs.size - 1 - k)).filterMap (xs[·]?) := by
    have e0 : ((List.range xs.size).map (fun (m : Nat) => (((xs.size : Int) - 1) + (m : Int) * (-1)).toNat)) = (List.range xs.size).map (fun k => xs.size - 1 - k) := by
      apply List.map_congr_left
      intro m hm
      have := List.mem_range.mp hm
      omega
    rw [← e0, List.filterMap_map]
    rfl
  rw [e, PySem.W.krv_range, List.filterMap_reverse, PySem.W.krv_all]
theorem getItem_tuple_rev {t sl : Addr} {items : Array Value} {vl vu vs : Value} {Q : Value → Shared → Prop} (ht : IsTup s.heap t items) (hs : s.heap.IsSliceOf sl vl vu vs) (pl : IsPart vl none) (pu : IsPart vu none) (ps : IsPart vs (some (-1)))
    (h : Q (.ref s.heap.objs.size) { s with heap := s.heap.push { cls := .type "tuple", data := .seq items.toList.reverse.toArray } })
    (hsz : items.size ≤ sizeLine) : wpAny (model prog w) A (getItem (.ref t) (.ref sl)) Q E s := by
  have htake : sizeOk (.seq items.toList.reverse.toArray) := by
    show items.toList.reverse.toArray.size ≤ sizeLine
    rw [List.size_toArray, List.length_reverse, Array.length_toList]
    exact hsz
  obtain ⟨os, hos, hcs, hds⟩ := id hs
  have hTs : s.TypeIs (.ref sl) "slice" := ⟨os, hos, hcs⟩
  unfold getItem
  try with_reducible refine wpAny_holding ?_
  first | refine wpAny_bind (wpAny_pure ?_) | skip
  refine wpAny_bind (wpAny_sequenceKey ht.typeIs (by decide) ?_)
  refine wpAny_bind (wpAny_callSpecial?_slot (name := Str.ofString "__getitem__") ht.typeIs PyProof.Rows.slot_tuple_getitem
    (wpAny_call_entry PyProof.Rows.slot_tuple_getitem ht.typeIs entry_tuple_getitem ?_ (args_tuple_getitem _ _)))
  show wpAny _ _ (Builtin.Tuple.tupleItemsOf (.ref t) >>= _) _ _ s
  refine wpAny_bind (tupleItemsOf_ ht ?_)
  refine wpAny_bind (wpAny_typeOf hTs ?_)
  rw [if_pos (by decide)]
  refine wpAny_bind (sliceApplied_rev hs pl pu ps ?_)
  have hno : ¬ (((((items.size : Nat) : Int) - 1) == 0 && (-1 : Int) == 1 && items.size == items.size) = true) := by
    intro q
    rw [Bool.and_eq_true, Bool.and_eq_true] at q
    exact absurd q.1.2 (by decide)
  show wpAny _ _ (if ((((items.size : Nat) : Int) - 1) == 0 && (-1 : Int) == 1 && items.size == items.size) = true then _ else _) _ _ s
  rw [if_neg hno, pick_rev]
  first
    | exact wpAny_bind (m := Builtin.Tuple.tupleExact _) (wpAny_newObj_type (wpAny_pure ⟨_, rfl, wpAny_pure h⟩) htake)
    | exact wpAny_bind (m := Builtin.Tuple.tupleExact _) (wpAny_newObj_type (wpAny_bind (wpAny_pure (wpAny_pure ⟨_, rfl, wpAny_pure h⟩))) htake)
    | exact wpAny_bind (wpAny_bind (m := Builtin.Tuple.tupleExact _) (wpAny_newObj_type (wpAny_pure (wpAny_pure ⟨_, rfl, wpAny_pure h⟩)) htake))
    | exact wpAny_bind (wpAny_bind (m := Builtin.Tuple.tupleExact _) (wpAny_newObj_type (wpAny_pure ⟨_, rfl, wpAny_pure h⟩) htake))
end
/-- t[::-1] -/
def tRevT (K : PySem.W.Frag) (te : TE) : TE := fun σ H Q => te σ H fun x H1 => ∃ a xs, x = .ref a ∧ SqT K H1 a xs ∧ ∀ p, H1 p = none → Q (.ref p) (upd H1 p (.tup xs.reverse))
theorem pe_revT {X : Cx} {e : Expr} {te : TE} {k : Nat} {p1 p2 p3 pos : Pos} (he : PE X e te) : PE X (.Subscript e (.Slice none none (some (.UnaryOp .USub (.Constant (.int 1) k p1) p2)) p3) pos) (tRevT X.K te) := by
  refine ⟨fun pins s σ H Q I h => ?_⟩
  refine Subscript_ (thn (he.run pins s σ H _ I h) fun v s1 ⟨x, H1, I1, r1, q1⟩ => ?_)
  obtain ⟨a, xs, ex, hx, q⟩ := q1
  subst ex
  cases r1
  have hst : PO X (some (.UnaryOp .USub (.Constant (.int 1) k p1) p2)) (tPart (tUn (rU fun i => .int (-i)) (tC (.int 1)))) := po_some (pe_un un_neg pe_int)
  refine wpAny_Slice (thn (po_none.run pins s1 σ H1 (fun o H2 => o = none ∧ H2 = H1) I1 ⟨rfl, rfl⟩) fun vl s2 ⟨l, H2, I2, pl, el, e2⟩ => ?_)
  subst el e2
  refine thn (po_none.run pins s2 σ H2 (fun o H3 => o = none ∧ H3 = H2) I2 ⟨rfl, rfl⟩) fun vu s3 ⟨u, H3, I3, pu, eu, e3⟩ => ?_
  subst eu e3
  refine thn (hst.run pins s3 σ H3 (fun o H4 => o = some (-1) ∧ H4 = H3) I3 ⟨1, rfl, -1, rfl, rfl, rfl⟩) fun vs s4 ⟨o, H4, I4, ps, eo, e4⟩ => ?_
  subst eo e4
  have I5 : Inv X pins σ H4 { s4 with heap := s4.heap.push { cls := .type "slice", data := .fields #[vl, vu, vs] } } := I4.kept (t' := s4.toks) fun b ob q => Heap.get?_push_of_some _ q
  obtain ⟨its, r, ht, hz⟩ := I5.tuple hx
  have hlen : its.toArray.size = xs.length := by rw [List.size_toArray]; exact r.length.symm
  show wpAny (model X.prog X.w) X.A (subscriptTail e (.Slice none none (some (.UnaryOp .USub (.Constant (.int 1) k p1) p2)) p3) (.ref a) (.ref s4.heap.objs.size)) (EP X pins σ Q) X.xe { s4 with heap := s4.heap.push { cls := .type "slice", data := .fields #[vl, vu, vs] } }
  refine tail_any (ops := [.ref a, .ref s4.heap.objs.size]) ht.typeIs PyProof.Rows.slot_tuple_getitem.lookup ?_ (by with_unfolding_all rfl)
  refine getItem_tuple_rev ht (Heap.IsSliceOf.new _ vl vu vs) pl pu ps ?_ (by rw [hlen]; exact hz)
  refine ⟨.ref _, _, I5.laid (t' := s4.toks) (o := .tup xs.reverse) (fun b ob q => Heap.get?_push_of_some _ q) (Nat.le_refl _) ?_, rfl, q _ (I5.hok.fresh (Nat.le_refl _))⟩
  exact ⟨by rw [List.length_reverse]; exact hz, _, r.reverse, IsTup.new _ _⟩
/-- l.extend(t) -/
theorem list_extend_tupG (l : Addr) (items : Array Value) (n : Nat) (b : Addr) (items2 : Array Value) (n2 : Nat) (dd : Option Addr) (sl : Array (Option Value)) (hs0 : ¬(!items.isEmpty && Builtin.List.listTooLong (items.size + items2.size)) = true) (hs1 : items.size ≤ sizeLine) (hs2 : items.size + items2.size ≤ sizeLine + 1) :
    Meets (Builtin.«list.extend» ⟨[.ref l, .ref b], []⟩) (fun _ R s => s.heap.get? l = some { cls := .type "list", dict := none, data := .seq items n, slots := #[] } ∧ s.heap.get? b = some { cls := .type "tuple", dict := dd, data := .seq items2 n2, slots := sl } ∧ R (.ok (.ret Value.none)) { s with heap := s.heap.update l (Obj.mapSeq fun x => x ++ items2), toks := s.toks }) :=
  .of_wp fun prog w A R s h => by
    obtain ⟨hp, g, d, tk, os⟩ := s; obtain ⟨hl, hb, h⟩ := h; have f1 := PySem.AutoSeq1.idx_int; have f2 := PySem.AutoSeq1.sub_tuple_tuple; have f3 := PySem.AutoSeq1.sub_list_list; have f4 := PySem.AutoSeq1.sub_tuple_list; have f5 := PySem.AutoSeq1.sub_list_tuple;
    have hz' : (items ++ items2).size ≤ sizeLine + 1 := by rw [Array.size_append]; exact hs2
    wp_walk using (wpAny_updateSeq hl rfl (hz := hs1) (_hz' := hz')), PySem.AutoSeq1.wpAny_loadPart' hl, PySem.AutoSeq1.wpAny_loadPart' hb; exact ⟨_, rfl, h⟩
def rExtT (K : PySem.W.Frag) : V → List V → Hp → VK → Prop := fun x vs H Q => ∃ l b xs zs, x = .ref l ∧ vs = [.ref b] ∧ H l = some (.lst xs) ∧ SqT K H b zs ∧ xs.length + zs.length ≤ sizeLine ∧ Q .non (upd H l (.lst (xs ++ zs)))
theorem mt_extendT {X : Cx} : MtR X "list.extend" (rExtT X.K) := by
  intro pins s σ H x vs v us Q I rx rv h
  obtain ⟨l, b, xs, zs, rfl, rfl, hH, hB, hz, q⟩ := h
  cases rx
  obtain ⟨u, rfl, ru⟩ := rv.one
  cases ru
  obtain ⟨z, its, n, r, hl, e⟩ := I.lstM hH
  obtain ⟨its2, r2, ht, z2⟩ := I.tuple hB
  have hl2 := r2.length
  obtain ⟨⟨cls2, dd2, data2, sl2⟩, ho2, hc2, n2, hd2⟩ := id ht
  simp only at hc2 hd2
  subst hc2 hd2
  have hsz : its.toArray.size + its2.toArray.size ≤ sizeLine := by rw [List.size_toArray, List.size_toArray]; omega
  have hlong : ¬ (!its.toArray.isEmpty && Builtin.List.listTooLong (its.toArray.size + its2.toArray.size)) = true := by
    rw [notLongL hsz, Bool.and_false]
    exact Bool.false_ne_true
  refine call_meets PySem.F.slot_list_extend ⟨_, e, rfl⟩ PySem.F.entry_list_extend (PySem.F.args_list_extend_2 _ _)
    (list_extend_tupG l its.toArray n b its2.toArray n2 dd2 sl2 hlong (by rw [List.size_toArray]; omega) (by omega)) ⟨e, ho2, ?_⟩
  refine ⟨.non, _, I.lset (its' := its ++ its2) hH e (by simp) (r.append r2) ?_, rfl, q⟩
  rw [List.length_append]
  omega
end Tc
/-! Tuples endure; terms as plain data. -/
namespace Tc
open PySem PySem.Spec PyProof.Rows L2 LamX

/-! ### all tuples stay -/
def Ten (H H' : Hp) : Prop := ∀ a xs, Rd H a (.tup xs) → Rd H' a (.tup xs)
section
variable {K : PySem.W.Frag} {H H' H2 : Hp} {p a : Addr} {xs ys : List V} {o u : HO}
theorem Ten.refl (H : Hp) : Ten H H := fun _ _ h => h
theorem Ten.trans (a : Ten H H') (b : Ten H' H2) : Ten H H2 := fun c xs h => b c xs (a c xs h)
theorem Ten.of_same (h : Same H H') : Ten H H' := fun a xs r => by
  rcases r with r | ⟨o, r⟩
  · exact .inl (h a _ r)
  · exact .inr ⟨o, h a _ r⟩
theorem Ten.of_but (b : But p H H') (h : ∀ xs, ¬ Rd H p (.tup xs)) : Ten H H' := fun a xs r => by
  have n : a ≠ p := fun e => h xs (e ▸ r)
  rcases r with r | ⟨o, r⟩
  · exact .inl (b a _ n r)
  · exact .inr ⟨o, b a _ n r⟩
theorem no_tup_lst (h : H p = some (.lst ys)) : ∀ xs, ¬ Rd H p (.tup xs) := fun xs r => by
  rcases r with r | ⟨o, r⟩ <;> (rw [h] at r; cases r)
theorem no_tup_dK {kvs} (h : H p = some (.dK kvs)) : ∀ xs, ¬ Rd H p (.tup xs) := fun xs r => by
  rcases r with r | ⟨o, r⟩ <;> (rw [h] at r; cases r)
theorem Ten.set (h : H p = some (.lst ys)) : Ten H (upd H p u) := Ten.of_but But.set (no_tup_lst h)
theorem Ten.new (h : H p = none) : Ten H (upd H p u) := Ten.of_same (Same.new h)
theorem Ten.pen (P : PenAt H p) (b : But p H H') : Ten H H' := by
  obtain ⟨c, ns, at_, dg, ct, fo, h, _⟩ := P
  exact Ten.of_but b (no_tup_dK h)
theorem Ten.tup (t : Ten H H') (h : SqT K H a xs) : SqT K H' a xs := by
  rcases h with h | h
  · exact .inl (t _ _ h)
  · exact .inr h
end
mutual
theorem ten_dp {K : PySem.W.Frag} {H H' : Hp} (t : Ten H H') : ∀ (d : PyData) {v : V}, plain d = true → Dp K H v d → Dp K H' v d
  | .none, _, _, h => by cases h; exact .non
  | .bool b, _, _, h => by cases h; exact .bl b
  | .int i, _, _, h => by cases h; exact .int i
  | .str x, _, _, h => by cases h; exact .str x
  | .tuple ds, _, p, h => by
    cases h with
    | tup q a => exact .tup (t.tup q) (ten_dps t ds (plain_tup p).2 a)
  | .list _, _, p, _ => by simp [plain] at p
  | .dict _, _, p, _ => by simp [plain] at p
theorem ten_dps {K : PySem.W.Frag} {H H' : Hp} (t : Ten H H') : ∀ (ds : List PyData) {vs : List V}, plainAll ds = true → DpAll K H vs ds → DpAll K H' vs ds
  | [], _, _, h => by cases h; exact .nil
  | d :: ds, _, p, h => by
    have p' : plain d = true ∧ plainAll ds = true := by simpa only [plainAll, Bool.and_eq_true] using p
    cases h with
    | cons a b => exact .cons (ten_dp t d p'.1 a) (ten_dps t ds p'.2 b)
end

theorem ifB {p : Bool} {A B : Prop} (h1 : p = true → A) (h2 : p = false → B) : if p = true then A else B := by
  cases p with
  | true => exact iteT (h1 rfl)
  | false => exact iteF (h2 rfl)
theorem Same.trans_upd {H H1 : Hp} {D : Addr} {o : HO} (s : Same H H1) (n : H D = none) : Same H (upd H1 D o) := fun b u e => by
  rw [upd_ne (ne_of_none e n)]
  exact s b u e
theorem sub_len (x : Str) (i j : Nat) : (Builtin.Str.strSub x i j).length ≤ x.length := by
  show (x.cps.extract i j).size ≤ x.cps.size
  rw [Array.size_extract]
  omega
theorem lstrip_len (x y : Str) : (Txt.lstripChars x y).length ≤ x.length := by
  unfold Txt.lstripChars Txt.stripBy
  split
  · exact Nat.le_refl _
  · exact sub_len x _ _
/-! ### names -/
def letters : Str := "abcdefghijklmnopqrstuvwxyz"
def digits : Str := "0123456789"
def words : List Str := ["nil", "pair", "case", "of", "same", "then", "else", "end", "function", "claim", "where", "is", "by"]
def nameOk (x : Str) : Bool := decide (1 ≤ (x.length : Int)) && (decide ((x.length : Int) ≤ 12) && (!inV (.str x) (words.map V.str) && (decide (((Txt.lstripChars x letters).length : Int) < x.length) && (((Txt.lstripChars x letters).cps.toList.map fun c => decide (c ∈ digits.cps.toList)).all id))))
def nameOkD : PyData → Bool
  | .str x => nameOk x
  | _ => false

/-! ### the inner terms of a tuple, by the book -/
def sameName : PyData → PyData → Bool
  | .str x, .str y => decide (x = y)
  | _, _ => false
def tupFive : PyData → Option (List PyData)
  | .tuple ks => if ks.length ≤ 5 then some ks else none
  | _ => none
def inName : List PyData → Option (List PyData)
  | [n] => if nameOkD n = true then some [] else none
  | _ => none
def inCall : List PyData → Option (List PyData)
  | [n, m] => if nameOkD n = true then tupFive m else none
  | _ => none
def inCase : List PyData → Option (List PyData)
  | [x, a, h, r, b] => if nameOkD x = true ∧ nameOkD h = true ∧ nameOkD r = true then (if sameName h r = true then none else some [a, b]) else none
  | _ => none
def innerD : PyData → Option (List PyData)
  | .tuple (.str z :: ds) =>
    if z = "nil" then (if ds.length = 0 then some [] else none)
    else if z = "name" then inName ds
    else if z = "pair" then (if ds.length = 2 then some ds else none)
    else if z = "same" then (if ds.length = 4 then some ds else none)
    else if z = "call" then inCall ds
    else if z = "case" then inCase ds
    else none
  | _ => none
section
variable {ds ks : List PyData} {z : Str} {n m x a h r b : PyData}
theorem innerD_nil : innerD (.tuple (.str "nil" :: ds)) = if ds.length = 0 then some [] else none := by
  rw [innerD]
  rw [if_pos rfl]
theorem innerD_name1 : innerD (.tuple [.str "name", n]) = if nameOkD n = true then some [] else none := by
  rw [innerD]
  rw [if_neg (by decide), if_pos rfl]
  rfl
theorem innerD_name0 (h : ds.length ≠ 1) : innerD (.tuple (.str "name" :: ds)) = none := by
  rw [innerD]
  rw [if_neg (by decide), if_pos rfl]
  unfold inName
  split
  · simp at h
  · rfl
theorem innerD_pair : innerD (.tuple (.str "pair" :: ds)) = if ds.length = 2 then some ds else none := by
  rw [innerD]
  rw [if_neg (by decide), if_neg (by decide), if_pos rfl]
theorem innerD_same : innerD (.tuple (.str "same" :: ds)) = if ds.length = 4 then some ds else none := by
  rw [innerD]
  rw [if_neg (by decide), if_neg (by decide), if_neg (by decide), if_pos rfl]
theorem innerD_call2 : innerD (.tuple [.str "call", n, m]) = if nameOkD n = true then tupFive m else none := by
  rw [innerD]
  rw [if_neg (by decide), if_neg (by decide), if_neg (by decide), if_neg (by decide), if_pos rfl]
  rfl
theorem innerD_call0 (h : ds.length ≠ 2) : innerD (.tuple (.str "call" :: ds)) = none := by
  rw [innerD]
  rw [if_neg (by decide), if_neg (by decide), if_neg (by decide), if_neg (by decide), if_pos rfl]
  unfold inCall
  split
  · simp at h
  · rfl
theorem innerD_case5 : innerD (.tuple [.str "case", x, a, h, r, b]) = if nameOkD x = true ∧ nameOkD h = true ∧ nameOkD r = true then (if sameName h r = true then none else some [a, b]) else none := by
  rw [innerD]
  rw [if_neg (by decide), if_neg (by decide), if_neg (by decide), if_neg (by decide), if_neg (by decide), if_pos rfl]
  rfl
theorem innerD_case0 (h : ds.length ≠ 5) : innerD (.tuple (.str "case" :: ds)) = none := by
  rw [innerD]
  rw [if_neg (by decide), if_neg (by decide), if_neg (by decide), if_neg (by decide), if_neg (by decide), if_pos rfl]
  unfold inCase
  split
  · simp at h
  · rfl
theorem innerD_other (h1 : z ≠ "nil") (h2 : z ≠ "name") (h3 : z ≠ "pair") (h4 : z ≠ "same") (h5 : z ≠ "call") (h6 : z ≠ "case") : innerD (.tuple (.str z :: ds)) = none := by
  rw [innerD]
  rw [if_neg h1, if_neg h2, if_neg h3, if_neg h4, if_neg h5, if_neg h6]
end

/-! ### reading tuples -/
section
variable {K : PySem.W.Frag} {H : Hp} {σ : L2.St} {p : Addr} {xs : List V} {x : V} {i m : Int} {j : Nat} {z w : Str} {Q : VK} {QT : Bool → Hp → Prop}
theorem rd_ix (h : σ[j]? = some (some (.ref p))) (q : SqT K H p xs) (e : atI xs i = some x) (k : Q x H) : tOp (rIx K) (tVar j) (tC (.int i)) σ H Q :=
  ⟨_, h, .inr (.inl ⟨p, xs, i, x, rfl, rfl, q, e, k⟩)⟩
theorem rd_len (h : σ[j]? = some (some (.ref p))) (q : SqT K H p xs) (k : Q (.int xs.length) H) : tCB (rLn K) (tCons (tVar j) tNil) σ H Q :=
  ⟨_, h, p, xs, rfl, .inr q, k⟩
theorem ts_word (h : σ[j]? = some (some (.ref p))) (q : SqT K H p xs) (e : atI xs 0 = some (.str z)) (k1 : z = w → QT true H) (k2 : z ≠ w → QT false H) : tTest (tOp rEq (tOp (rIx K) (tVar j) (tC (.int 0))) (tC (.str w))) σ H QT := by
  refine rd_ix h q e ⟨rfl, _, rfl, ?_⟩
  by_cases hz : z = w
  · rw [decide_eq_true (congrArg V.str hz)]
    exact k1 hz
  · rw [decide_eq_false fun e => hz (V.str.inj e)]
    exact k2 hz
theorem ts_wordN (h : σ[j]? = some (some (.ref p))) (q : SqT K H p xs) (e : atI xs 0 = some (.str z)) (k1 : z ≠ w → QT true H) (k2 : z = w → QT false H) : tTest (tOp rNe (tOp (rIx K) (tVar j) (tC (.int 0))) (tC (.str w))) σ H QT := by
  refine rd_ix h q e ⟨rfl, _, rfl, ?_⟩
  by_cases hz : z = w
  · rw [decide_eq_true (congrArg V.str hz)]
    exact k2 hz
  · rw [decide_eq_false fun e => hz (V.str.inj e)]
    exact k1 hz
theorem ts_len (h : σ[j]? = some (some (.ref p))) (q : SqT K H p xs) (k1 : (xs.length : Int) = m → QT true H) (k2 : (xs.length : Int) ≠ m → QT false H) : tTest (tOp rEq (tCB (rLn K) (tCons (tVar j) tNil)) (tC (.int m))) σ H QT := by
  refine rd_len h q ⟨rfl, _, rfl, ?_⟩
  by_cases hz : (xs.length : Int) = m
  · rw [decide_eq_true (congrArg V.int hz)]
    exact k1 hz
  · rw [decide_eq_false fun e => hz (V.int.inj e)]
    exact k2 hz
theorem ts_lenN (h : σ[j]? = some (some (.ref p))) (q : SqT K H p xs) (k1 : (xs.length : Int) ≠ m → QT true H) (k2 : (xs.length : Int) = m → QT false H) : tTest (tOp rNe (tCB (rLn K) (tCons (tVar j) tNil)) (tC (.int m))) σ H QT := by
  refine rd_len h q ⟨rfl, _, rfl, ?_⟩
  by_cases hz : (xs.length : Int) = m
  · rw [decide_eq_true (congrArg V.int hz)]
    exact k2 hz
  · rw [decide_eq_false fun e => hz (V.int.inj e)]
    exact k1 hz
/-- len(t) == m, as a value that is tested next -/
theorem ifLen {Q2 : VK} (h : σ[j]? = some (some (.ref p))) (q : SqT K H p xs) (k1 : (xs.length : Int) = m → Q2 (.bl true) H) (k2 : (xs.length : Int) ≠ m → Q2 (.bl false) H) : tOp rEq (tCB (rLn K) (tCons (tVar j) tNil)) (tC (.int m)) σ H Q2 := by
  refine rd_len h q ⟨rfl, ?_⟩
  by_cases hz : (xs.length : Int) = m
  · rw [decide_eq_true (congrArg V.int hz)]
    exact k1 hz
  · rw [decide_eq_false fun e => hz (V.int.inj e)]
    exact k2 hz
/-- the end of a tuple from its second item on -/
theorem cut1 {y : V} : cutV (y :: xs) (some 1) none = xs := by
  unfold cutV
  have h1 : HT.sIx (y :: xs).length 0 (some 1) = 1 := by
    rw [show (some 1 : Option Int) = some ((1 : Nat) : Int) from rfl, HT.sIx_nat, List.length_cons]
    omega
  rw [h1, HT.sIx_none, List.drop_one, List.tail_cons, List.take_of_length_le (by rw [List.length_cons]; omega)]
theorem rd_tail {y : V} (h : σ[j]? = some (some (.ref p))) (q : SqT K H p (y :: xs)) (k : ∀ r, H r = none → Q (.ref r) (upd H r (.tup xs))) : tSl (rSlA K) (tVar j) (tPart (tC (.int 1))) tNoPart σ H Q := by
  refine ⟨_, h, 1, rfl, p, y :: xs, rfl, q, fun w => ?_, fun _ r n => by rw [cut1]; exact k r n⟩
  have h1 : HT.sIx (y :: xs).length 0 (some 1) = 1 := by
    rw [show (some 1 : Option Int) = some ((1 : Nat) : Int) from rfl, HT.sIx_nat, List.length_cons]
    omega
  rw [h1] at w
  exact absurd w.1 (by decide)
end
theorem plain_cons {d : PyData} {ds : List PyData} (h : plainAll (d :: ds) = true) : plain d = true ∧ plainAll ds = true := by
  simpa only [plainAll, Bool.and_eq_true] using h
theorem dps_zero {K : PySem.W.Frag} {H : Hp} {vs : List V} {ds : List PyData} (a : DpAll K H vs ds) (h : vs.length = 0) : vs = [] ∧ ds = [] := by
  cases a with
  | nil => exact ⟨rfl, rfl⟩
  | cons _ _ => simp at h
theorem dps_succ {K : PySem.W.Frag} {H : Hp} {vs : List V} {ds : List PyData} {n : Nat} (a : DpAll K H vs ds) (h : vs.length = n + 1) : ∃ x xs d es, vs = x :: xs ∧ ds = d :: es ∧ Dp K H x d ∧ DpAll K H xs es ∧ xs.length = n := by
  cases a with
  | nil => simp at h
  | cons a0 a => exact ⟨_, _, _, _, rfl, rfl, a0, a, by simpa using h⟩
theorem seq_while {c : TT} {tb u : TS} {D : Ends} {σ : L2.St} {H : Hp} (h : tWhile c tb { D with nx := u D } σ H) : tSeq (tWhile c tb) u D σ H := h
theorem small4000 {n : Nat} (h : n ≤ 4000) : n < sizeLine := Nat.lt_of_le_of_lt h (by decide)
theorem paired_append {α β : Type} {F : α → β → Prop} : ∀ {a c : List α} {b d : List β}, Paired F a b → Paired F c d → Paired F (a ++ c) (b ++ d)
  | _, _, _, _, .nil, h => h
  | _, _, _, _, .cons r t, h => .cons r (paired_append t h)
theorem paired_snoc_inv {α β : Type} {F : α → β → Prop} {x : α} : ∀ {l : List α} {m : List β}, Paired F (l ++ [x]) m → ∃ m' y, m = m' ++ [y] ∧ Paired F l m' ∧ F x y
  | [], _, h => by
    cases h with
    | cons r t =>
      cases t
      exact ⟨[], _, rfl, .nil, r⟩
  | a :: l, _, h => by
    cases h with
    | cons r t =>
      obtain ⟨m', y, rfl, p, q⟩ := paired_snoc_inv t
      exact ⟨_ :: m', y, rfl, .cons r p, q⟩
theorem paired_nil {α β : Type} {F : α → β → Prop} {m : List β} (h : Paired F ([] : List α) m) : m = [] := by
  cases h
  rfl
theorem innerD_len {d : PyData} {ks : List PyData} (h : innerD d = some ks) : ks.length ≤ 5 := by
  unfold innerD at h
  split at h
  · split at h
    · split at h
      · cases h; exact Nat.zero_le _
      · cases h
    split at h
    · unfold inName at h
      split at h
      · split at h
        · cases h; exact Nat.zero_le _
        · cases h
      · cases h
    split at h
    · split at h
      · rename_i e; cases h; omega
      · cases h
    split at h
    · split at h
      · rename_i e; cases h; omega
      · cases h
    split at h
    · unfold inCall at h
      split at h
      · split at h
        · unfold tupFive at h
          split at h
          · split at h
            · rename_i e; cases h; exact e
            · cases h
          · cases h
        · cases h
      · cases h
    split at h
    · unfold inCase at h
      split at h
      · split at h
        · split at h
          · cases h
          · cases h; show 2 ≤ 5; decide
        · cases h
      · cases h
    · cases h
  · cases h
theorem innerD_plain {d : PyData} {ks : List PyData} (hp : plain d = true) (h : innerD d = some ks) : plainAll ks = true := by
  unfold innerD at h
  split at h
  · rename_i z ds
    have hp1 := (plain_cons (plain_tup hp).2).2
    split at h
    · split at h
      · cases h; rfl
      · cases h
    split at h
    · unfold inName at h
      split at h
      · split at h
        · cases h; rfl
        · cases h
      · cases h
    split at h
    · split at h
      · cases h; exact hp1
      · cases h
    split at h
    · split at h
      · cases h; exact hp1
      · cases h
    split at h
    · unfold inCall at h
      split at h
      · rename_i n m
        have hm := (plain_cons (plain_cons hp1).2).1
        split at h
        · unfold tupFive at h
          split at h
          · split at h
            · cases h; exact (plain_tup hm).2
            · cases h
          · cases h
        · cases h
      · cases h
    split at h
    · unfold inCase at h
      split at h
      · rename_i x a e r b
        obtain ⟨_, hp2⟩ := plain_cons hp1
        obtain ⟨ha, hp2⟩ := plain_cons hp2
        obtain ⟨_, hp2⟩ := plain_cons hp2
        obtain ⟨_, hp2⟩ := plain_cons hp2
        obtain ⟨hb, _⟩ := plain_cons hp2
        split at h
        · split at h
          · cases h
          · cases h
            simp [plainAll, ha, hb]
        · cases h
      · cases h
    · cases h
  · cases h
/-! ### is_term -/
def isTermL : Nat → List (PyData × Int) → Bool
  | _, [] => true
  | 0, _ :: _ => false
  | n + 1, e :: rest => match innerD e.1 with
    | none => false
    | some ks => if e.2 > 40 then false else isTermL n ((ks.map fun x => (x, e.2 + 1)).reverse ++ rest)
def isTermD (d : PyData) : Bool := isTermL 400 [(d, 1)]
theorem isTermL_nil {n : Nat} : isTermL n [] = true := by
  cases n <;> rfl
theorem isTermL_none {n : Nat} {e : PyData × Int} {rest : List (PyData × Int)} (h : innerD e.1 = none) : isTermL n (e :: rest) = false := by
  cases n with
  | zero => rfl
  | succ n => rw [isTermL, h]
theorem isTermL_deep {n : Nat} {e : PyData × Int} {rest : List (PyData × Int)} (h : e.2 > 40) : isTermL n (e :: rest) = false := by
  cases n with
  | zero => rfl
  | succ n =>
    rw [isTermL]
    split
    · rfl
    · rw [if_pos h]
theorem isTermL_some {n : Nat} {e : PyData × Int} {rest : List (PyData × Int)} {ks : List PyData} (h : innerD e.1 = some ks) (hd : ¬ e.2 > 40) : isTermL (n + 1) (e :: rest) = isTermL n ((ks.map fun x => (x, e.2 + 1)).reverse ++ rest) := by
  rw [isTermL, h]
  show (if e.2 > 40 then _ else _) = _
  rw [if_neg hd]
/-- (d, k) as a tuple -/
def Item (K : PySem.W.Frag) (H : Hp) (x : V) (e : PyData × Int) : Prop := ∃ (a : Addr) (v : V), x = .ref a ∧ SqT K H a [v, .int e.2] ∧ Dp K H v e.1 ∧ plain e.1 = true
theorem Item.ten {K : PySem.W.Frag} {H H' : Hp} {x : V} {e : PyData × Int} (t : Ten H H') (h : Item K H x e) : Item K H' x e := by
  obtain ⟨a, v, rfl, q, d, p⟩ := h
  exact ⟨a, v, rfl, t.tup q, ten_dp t _ p d, p⟩
theorem items_ten {K : PySem.W.Frag} {H H' : Hp} {xs : List V} {es : List (PyData × Int)} (t : Ten H H') (h : Paired (Item K H) xs es) : Paired (Item K H') xs es := L2.Paired.mapP h fun _ _ => Item.ten t
def spIsTerm (K : PySem.W.Frag) : Sp := fun vs H Q _ => ∃ (v : V) (d : PyData), vs = [v] ∧ Dp K H v d ∧ plain d = true ∧ ∀ H', Same H H' → Q (.bl (isTermD d)) H'
/-- what inner_of gives -/
def spInner (K : PySem.W.Frag) : Sp := fun vs H Q _ => ∃ (v : V) (d : PyData), vs = [v] ∧ Dp K H v d ∧ plain d = true ∧
  (innerD d = none → ∀ H', Same H H' → Q .non H') ∧ ∀ ks, innerD d = some ks → ∀ (q : Addr) (us : List V) (H' : Hp), Same H H' → SqT K H' q us → DpAll K H' us ks → Q (.ref q) H'
end Tc
/-! Terms as trees: what stands on top, the terms within. -/
namespace Tc
open PySem PySem.Spec PyProof.Rows L2 LamX

inductive Hd where
  | nil | nm (x : Str) | pair | same | call (f : Str) | case (x h r : Str)
inductive Trm where
  | mk (h : Hd) (ks : List Trm)
def lay : Hd → List PyData → PyData
  | .nil, _ => .tuple [.str "nil"]
  | .nm x, _ => .tuple [.str "name", .str x]
  | .pair, ks => .tuple (.str "pair" :: ks)
  | .same, ks => .tuple (.str "same" :: ks)
  | .call f, ks => .tuple [.str "call", .str f, .tuple ks]
  | .case x h r, ks => .tuple [.str "case", .str x, ks.getD 0 .none, .str h, .str r, ks.getD 1 .none]
def fits : Hd → Nat → Bool
  | .nil, n => n == 0
  | .nm x, n => n == 0 && nameOk x
  | .pair, n => n == 2
  | .same, n => n == 4
  | .call f, n => decide (n ≤ 5) && nameOk f
  | .case x h r, n => n == 2 && (nameOk x && (nameOk h && (nameOk r && !decide (h = r))))
mutual
def Trm.data : Trm → PyData
  | .mk h ks => lay h (datas ks)
def datas : List Trm → List PyData
  | [] => []
  | t :: ts => t.data :: datas ts
end
mutual
def Trm.ok : Trm → Bool
  | .mk h ks => fits h ks.length && oks ks
def oks : List Trm → Bool
  | [] => true
  | t :: ts => t.ok && oks ts
end
mutual
def Trm.size : Trm → Nat
  | .mk _ ks => 1 + sizes ks
def sizes : List Trm → Nat
  | [] => 0
  | t :: ts => t.size + sizes ts
end
mutual
def Trm.deep : Trm → Nat
  | .mk _ ks => 1 + deeps ks
def deeps : List Trm → Nat
  | [] => 0
  | t :: ts => max t.deep (deeps ts)
end
def Trm.kids : Trm → List Trm
  | .mk _ ks => ks
def Trm.hd : Trm → Hd
  | .mk h _ => h
theorem datas_len : ∀ {ts : List Trm}, (datas ts).length = ts.length
  | [] => rfl
  | t :: ts => by rw [datas, List.length_cons, List.length_cons, datas_len]
theorem datas_get : ∀ {ts : List Trm} {i : Nat}, (datas ts)[i]? = (ts[i]?).map Trm.data
  | [], i => by simp [datas]
  | t :: ts, 0 => by simp [datas]
  | t :: ts, i + 1 => by
    rw [datas, List.getElem?_cons_succ, List.getElem?_cons_succ]
    exact datas_get
theorem datas_map : ∀ {ts : List Trm}, datas ts = ts.map Trm.data
  | [] => rfl
  | t :: ts => by rw [datas, List.map_cons, datas_map]
theorem oks_mem : ∀ {ts : List Trm} {t : Trm}, oks ts = true → t ∈ ts → t.ok = true
  | [], _, _, h => nomatch h
  | u :: ts, t, o, h => by
    have o' : u.ok = true ∧ oks ts = true := by simpa only [oks, Bool.and_eq_true] using o
    rcases List.mem_cons.mp h with rfl | h
    · exact o'.1
    · exact oks_mem o'.2 h
theorem oks_of : ∀ {ts : List Trm}, (∀ t ∈ ts, t.ok = true) → oks ts = true
  | [], _ => rfl
  | u :: ts, h => by
    rw [oks, h u List.mem_cons_self, oks_of fun t ht => h t (List.mem_cons_of_mem _ ht)]
    rfl
theorem ok_mk {h : Hd} {ks : List Trm} (o : (Trm.mk h ks).ok = true) : fits h ks.length = true ∧ oks ks = true := by
  simpa only [Trm.ok, Bool.and_eq_true] using o
theorem nameOk_len {x : Str} (h : nameOk x = true) : x.length ≤ 12 := by
  unfold nameOk at h
  simp only [Bool.and_eq_true, decide_eq_true_eq] at h
  omega
theorem plain_name {x : Str} (h : nameOk x = true) : plain (.str x) = true := by
  have := nameOk_len h
  simp only [plain, decide_eq_true_eq]
  omega
theorem datas_plain : ∀ {ts : List Trm}, (∀ t ∈ ts, plain t.data = true) → plainAll (datas ts) = true
  | [], _ => rfl
  | t :: ts, h => by
    rw [datas, plainAll, h t List.mem_cons_self, datas_plain fun u hu => h u (List.mem_cons_of_mem _ hu)]
    rfl
theorem plain_lay {h : Hd} {ds : List PyData} (f : fits h ds.length = true) (p : plainAll ds = true) : plain (lay h ds) = true := by
  have w (s : Str) (hs : s.length ≤ 100000) : plain (.str s) = true := by simp only [plain, decide_eq_true_eq]; exact hs
  cases h with
  | nil =>
    show plain (.tuple [.str "nil"]) = true
    decide +kernel
  | nm x =>
    simp only [fits, Bool.and_eq_true] at f
    simp [lay, plain, plainAll, w "name" (by decide)]
    have := nameOk_len f.2
    exact ⟨by decide, by omega⟩
  | pair =>
    have f' : ds.length = 2 := by simpa [fits] using f
    simp [lay, plain, plainAll, p, f']
    decide
  | same =>
    have f' : ds.length = 4 := by simpa [fits] using f
    simp [lay, plain, plainAll, p, f']
    decide
  | call g =>
    simp only [fits, Bool.and_eq_true, decide_eq_true_eq] at f
    have := nameOk_len f.2
    simp [lay, plain, plainAll, p]
    exact ⟨by decide, by omega, by omega⟩
  | case x a b =>
    simp only [fits, Bool.and_eq_true, beq_iff_eq] at f
    obtain ⟨f0, f1, f2, f3, _⟩ := f
    match ds, f0, p with
    | [d1, d2], _, p =>
      obtain ⟨p1, p2⟩ := plain_cons p
      obtain ⟨p2, _⟩ := plain_cons p2
      have n1 := nameOk_len f1
      have n2 := nameOk_len f2
      have n3 := nameOk_len f3
      simp [lay, plain, plainAll, p1, p2]
      exact ⟨by decide, by omega, by omega, by omega⟩
mutual
theorem plain_data : ∀ (t : Trm), t.ok = true → plain t.data = true
  | .mk h ks, o => by
    obtain ⟨f, o'⟩ := ok_mk o
    rw [Trm.data]
    exact plain_lay (by rw [datas_len]; exact f) (plain_datas ks o')
theorem plain_datas : ∀ (ts : List Trm), oks ts = true → plainAll (datas ts) = true
  | [], _ => rfl
  | t :: ts, o => by
    have o' : t.ok = true ∧ oks ts = true := by simpa only [oks, Bool.and_eq_true] using o
    rw [datas, plainAll, plain_data t o'.1, plain_datas ts o'.2]
    rfl
end
theorem inner_lay {h : Hd} {ds : List PyData} (f : fits h ds.length = true) : innerD (lay h ds) = some ds := by
  cases h with
  | nil =>
    have f' : ds.length = 0 := by simpa [fits] using f
    match ds, f' with
    | [], _ => rw [lay, innerD_nil]; rfl
  | nm x =>
    have f' : ds.length = 0 ∧ nameOk x = true := by simpa [fits] using f
    match ds, f'.1 with
    | [], _ => rw [lay, innerD_name1, if_pos (show nameOkD (.str x) = true from f'.2)]
  | pair =>
    have f' : ds.length = 2 := by simpa [fits] using f
    rw [lay, innerD_pair, if_pos f']
  | same =>
    have f' : ds.length = 4 := by simpa [fits] using f
    rw [lay, innerD_same, if_pos f']
  | call g =>
    have f' : ds.length ≤ 5 ∧ nameOk g = true := by simpa [fits] using f
    rw [lay, innerD_call2, if_pos (show nameOkD (.str g) = true from f'.2)]
    show (if ds.length ≤ 5 then some ds else none) = some ds
    rw [if_pos f'.1]
  | case x a b =>
    simp only [fits, Bool.and_eq_true, beq_iff_eq] at f
    obtain ⟨f0, f1, f2, f3, f4⟩ := f
    match ds, f0 with
    | [d1, d2], _ =>
      rw [lay, innerD_case5, if_pos ⟨f1, f2, f3⟩]
      have e : ¬ sameName (.str a) (.str b) = true := by
        show ¬ decide (a = b) = true
        simpa using f4
      rw [if_neg e]
      rfl
theorem inner_data {t : Trm} (o : t.ok = true) : innerD t.data = some (datas t.kids) := by
  obtain ⟨h, ks⟩ := t
  rw [Trm.data]
  exact inner_lay (by rw [datas_len]; exact (ok_mk o).1)
theorem ok_kids {t : Trm} (o : t.ok = true) : oks t.kids = true := by
  obtain ⟨h, ks⟩ := t
  exact (ok_mk o).2
theorem size_kids (t : Trm) : t.size = 1 + sizes t.kids := by
  obtain ⟨h, ks⟩ := t
  rw [Trm.size]
  rfl
theorem deep_kids (t : Trm) : t.deep = 1 + deeps t.kids := by
  obtain ⟨h, ks⟩ := t
  rw [Trm.deep]
  rfl
theorem size_pos (t : Trm) : 0 < t.size := by
  rw [size_kids]
  omega
theorem sizes_append : ∀ {a b : List Trm}, sizes (a ++ b) = sizes a + sizes b
  | [], b => by rw [List.nil_append, sizes]; omega
  | t :: a, b => by rw [List.cons_append, sizes, sizes, sizes_append]; omega
theorem sizes_rev : ∀ {a : List Trm}, sizes a.reverse = sizes a
  | [] => rfl
  | t :: a => by
    rw [List.reverse_cons, sizes_append, sizes_rev, sizes, sizes, sizes]
    omega
theorem sizes_len : ∀ {a : List Trm}, a.length ≤ sizes a
  | [] => Nat.le_refl _
  | t :: a => by
    have := sizes_len (a := a)
    have := size_pos t
    rw [List.length_cons, sizes]
    omega
theorem deeps_mem : ∀ {ts : List Trm} {t : Trm}, t ∈ ts → t.deep ≤ deeps ts
  | [], _, h => nomatch h
  | u :: ts, t, h => by
    rw [deeps]
    rcases List.mem_cons.mp h with rfl | h
    · omega
    · have := deeps_mem h
      omega
/-- a small, flat enough term is one -/
theorem isTermL_ok : ∀ (n : Nat) (stk : List (Trm × Int)), (∀ e ∈ stk, e.1.ok = true ∧ e.2 + e.1.deep ≤ 41) → sizes (stk.map (·.1)) ≤ n → isTermL n (stk.map fun e => (e.1.data, e.2)) = true
  | n, [], _, _ => isTermL_nil
  | 0, e :: stk, _, hs => by
    have := size_pos e.1
    rw [List.map_cons, sizes] at hs
    omega
  | n + 1, e :: stk, h, hs => by
    obtain ⟨ho, hd⟩ := h e List.mem_cons_self
    rw [List.map_cons, sizes, size_kids] at hs
    rw [deep_kids] at hd
    rw [List.map_cons, isTermL_some (inner_data ho) (by show ¬ e.2 > 40; omega)]
    have e1 : ((datas e.1.kids).map fun x => (x, e.2 + 1)).reverse ++ stk.map (fun e => (e.1.data, e.2)) = (((e.1.kids.map fun x => (x, e.2 + 1)).reverse ++ stk).map fun e => (e.1.data, e.2)) := by
      rw [List.map_append, List.map_reverse, List.map_map, datas_map, List.map_map]
      rfl
    show isTermL n (((datas e.1.kids).map fun x => (x, e.2 + 1)).reverse ++ stk.map (fun e => (e.1.data, e.2))) = true
    rw [e1]
    refine isTermL_ok n _ ?_ ?_
    · intro u hu
      rcases List.mem_append.mp hu with hu | hu
      · rw [List.mem_reverse, List.mem_map] at hu
        obtain ⟨x, hx, rfl⟩ := hu
        have := deeps_mem hx
        exact ⟨oks_mem (ok_kids ho) hx, by show e.2 + 1 + x.deep ≤ 41; omega⟩
      · exact h u (List.mem_cons_of_mem _ hu)
    · rw [List.map_append, sizes_append, List.map_reverse, sizes_rev, List.map_map]
      have e2 : e.1.kids.map ((fun x : Trm × Int => x.1) ∘ fun x => (x, e.2 + 1)) = e.1.kids := by
        conv => rhs; rw [← List.map_id e.1.kids]
        rfl
      rw [e2]
      omega
theorem isTerm_data {t : Trm} (o : t.ok = true) (hs : t.size ≤ 400) (hd : t.deep ≤ 40) : isTermD t.data = true :=
  isTermL_ok 400 [(t, 1)] (fun e he => by
    rcases List.mem_singleton.mp he with rfl
    exact ⟨o, by show (1 : Int) + t.deep ≤ 41; omega⟩) (by show t.size + 0 ≤ 400; omega)

/-! ### terms on the heap -/
/-- x is the term t -/
def TmAt (K : PySem.W.Frag) (H : Hp) (x : V) (t : Trm) : Prop := Dp K H x t.data ∧ t.ok = true
theorem TmAt.ten {K : PySem.W.Frag} {H H' : Hp} {x : V} {t : Trm} (e : Ten H H') (h : TmAt K H x t) : TmAt K H' x t := ⟨ten_dp e _ (plain_data t h.2) h.1, h.2⟩
theorem tms_ten {K : PySem.W.Frag} {H H' : Hp} {xs : List V} {ts : List Trm} (e : Ten H H') (h : Paired (TmAt K H) xs ts) : Paired (TmAt K H') xs ts := L2.Paired.mapP h fun _ _ => TmAt.ten e
theorem tms_of {K : PySem.W.Frag} {H : Hp} : ∀ {ts : List Trm} {xs : List V}, oks ts = true → DpAll K H xs (datas ts) → Paired (TmAt K H) xs ts
  | [], _, _, h => by
    rw [datas] at h
    cases h
    exact .nil
  | t :: ts, _, o, h => by
    have o' : t.ok = true ∧ oks ts = true := by simpa only [oks, Bool.and_eq_true] using o
    rw [datas] at h
    cases h with
    | cons a b => exact .cons ⟨a, o'.1⟩ (tms_of o'.2 b)
theorem tms_dps {K : PySem.W.Frag} {H : Hp} : ∀ {ts : List Trm} {xs : List V}, Paired (TmAt K H) xs ts → DpAll K H xs (datas ts)
  | [], _, h => by
    cases h
    rw [datas]
    exact .nil
  | t :: ts, _, h => by
    cases h with
    | cons a b =>
      rw [datas]
      exact .cons a.1 (tms_dps b)
theorem paired_rev {α β : Type} {F : α → β → Prop} : ∀ {a : List α} {b : List β}, Paired F a b → Paired F a.reverse b.reverse
  | _, _, .nil => .nil
  | _, _, .cons r t => by
    rw [List.reverse_cons, List.reverse_cons]
    exact paired_append (paired_rev t) (.cons r .nil)
/-- what all_terms gives: as many as there are -/
def spAllTerms (K : PySem.W.Frag) : Sp := fun vs H Q _ => ∃ (v : V) (t : Trm), vs = [v] ∧ TmAt K H v t ∧ t.size ≤ 100000 ∧ ∀ (f : Addr) (fs : List V) (H' : Hp), Same H H' → H' f = some (.lst fs) → fs.length = t.size → Q (.ref f) H'
def spSize (K : PySem.W.Frag) : Sp := fun vs H Q _ => ∃ (v : V) (t : Trm), vs = [v] ∧ TmAt K H v t ∧ t.size ≤ 100000 ∧ ∀ H', Same H H' → Q (.int t.size) H'

/-! ### arguments that are read alone -/
abbrev Mo (ta : TA) : Prop := ∀ (σ : L2.St) (H : Hp) (Q Q' : List V → Hp → Prop), ta σ H Q → (∀ vs H, Q vs H → Q' vs H) → ta σ H Q'
theorem mo_nil : Mo tNil := fun _ _ _ _ h k => k _ _ h
theorem mo_var {i : Nat} {t : TA} (m : Mo t) : Mo (tCons (tVar i) t) := fun σ H Q Q' h k => by
  obtain ⟨v, hv, q⟩ := h
  exact ⟨v, hv, m _ _ _ _ q fun vs H' q' => k _ _ q'⟩
theorem mo_c {v : V} {t : TA} (m : Mo t) : Mo (tCons (tC v) t) := fun σ H Q Q' h k => m σ H (fun xs => Q (v :: xs)) (fun xs => Q' (v :: xs)) h fun vs H' q' => k _ _ q'
/-! ### what is told by an error -/
def Raises (K : PySem.W.Frag) (x : Str) (fs : List (Str × V)) (H : Hp) (E : XK) : Prop := ∀ (dd : Addr) (H' : Hp), Same H H' → H' dd = some (.xd fs) → E (.ref (He.ga K x)) (some dd) H'
def spNeedTerm (K : PySem.W.Frag) : Sp := fun vs H Q E => ∃ (z : Str) (v : V) (d : PyData), vs = [.str z, v] ∧ Dp K H v d ∧ plain d = true ∧
  (isTermD d = true → ∀ H', Same H H' → Q .non H') ∧ (isTermD d = false → Raises K "BadRow" [("row", v), ("what", .str z)] H E)
/-! ### how deep -/
def spDepth (K : PySem.W.Frag) : Nat → Sp
  | 0 => fun _ _ _ _ => False
  | n + 1 => fun vs H Q _ => ∃ (v : V) (t : Trm), vs = [v] ∧ TmAt K H v t ∧ t.deep ≤ n + 1 ∧ ∀ H', Same H H' → Q (.int t.deep) H'
def spNeedSmall (K : PySem.W.Frag) : Sp := fun vs H Q _ => ∃ (v : V) (t : Trm), vs = [v] ∧ TmAt K H v t ∧ t.size ≤ 400 ∧ t.deep ≤ 24 ∧ ∀ H', Same H H' → Q v H'
theorem deeps_max : ∀ {ts : List Trm} {m : Int}, m ∈ (0 : Int) :: ts.map (fun u => (u.deep : Int)) → (∀ y ∈ (0 : Int) :: ts.map (fun u => (u.deep : Int)), y ≤ m) → m = deeps ts
  | [], m, h, _ => by
    rw [deeps]
    simpa using h
  | t :: ts, m, h, a => by
    rw [deeps]
    have h1 : (t.deep : Int) ≤ m := a _ (by simp)
    rw [List.map_cons] at h a
    have a2 : ∀ y ∈ (0 : Int) :: ts.map (fun u => (u.deep : Int)), y ≤ m := fun y hy => a y (by
      rcases List.mem_cons.mp hy with rfl | hy
      · exact List.mem_cons_self
      · exact List.mem_cons_of_mem _ (List.mem_cons_of_mem _ hy))
    have h3 : (deeps ts : Int) ≤ m := by
      clear h h1
      induction ts with
      | nil => exact a2 _ (by simp [deeps])
      | cons u us ih =>
        rw [deeps]
        have b1 : (u.deep : Int) ≤ m := a2 _ (by simp)
        have b2 : (deeps us : Int) ≤ m := ih (fun y hy => a y (by
          rcases List.mem_cons.mp hy with rfl | hy
          · exact List.mem_cons_self
          · rcases List.mem_cons.mp hy with rfl | hy
            · exact List.mem_cons_of_mem _ List.mem_cons_self
            · exact List.mem_cons_of_mem _ (List.mem_cons_of_mem _ (by rw [List.map_cons]; exact List.mem_cons_of_mem _ hy)))) (fun y hy => a2 y (by
          rcases List.mem_cons.mp hy with rfl | hy
          · exact List.mem_cons_self
          · exact List.mem_cons_of_mem _ (by rw [List.map_cons]; exact List.mem_cons_of_mem _ hy)))
        omega
    rcases List.mem_cons.mp h with h0 | h0
    · have := deeps_max (ts := ts) (m := m) (by rw [h0]; exact List.mem_cons_self) a2
      omega
    · rcases List.mem_cons.mp h0 with h0 | h0
      · omega
      · have := deeps_max (ts := ts) (m := m) (List.mem_cons_of_mem _ h0) a2
        omega
end Tc
/-! enumerate(t) of a tuple -/
namespace Tc
open PySem PySem.Spec PyProof.Rows L2 LamX
open AutoSeq1 (wpAny_loadPart')
section
variable {prog : Program} {w : World} {A : Around} {E : Value → Shared → Prop} {s : Shared}
theorem nextOf_tuple_item {it l : Addr} {i : Nat} {items} {x : Value} {Q : Value → Shared → Prop} (hit : s.heap.IsTupleIter it l i)
    (hl : s.heap.IsTuple l items) (hx : items[i]? = some x)
    (hQ : ∀ h', h'.IsTupleIter it l (i + 1) → Heap.SameBut it s.heap h' → Q x { s with heap := h' }) :
    wpAny (model prog w) A (Builtin.SmallTypes.nextOf (.ref it)) Q E s := by
  obtain ⟨o, ho, hc, hd⟩ := id hit
  obtain ⟨ol, hol, _, nl, hdl⟩ := hl
  unfold Builtin.SmallTypes.nextOf
  refine wpAny_bind (wpAny_callSpecial?_slot (name := Str.ofString "__next__") hit.typeIs F.slot_tuple_iterator_next
    (wpAny_call_entry F.slot_tuple_iterator_next hit.typeIs F.entry_tuple_iterator_next ?_ (F.args_tuple_iterator_next_1 _)))
  show wpAny _ _ (field (.ref it) 0 >>= _) _ _ s
  refine wpAny_bind (wpAny_field ho hd (x := .ref l) rfl ?_)
  show wpAny _ _ (if (Value.ref l == Value.none) = true then _ else _) _ _ s
  rw [if_neg (show ¬ ((Value.ref l == Value.none) = true) from Bool.false_ne_true)]
  show wpAny _ _ (field (.ref it) 1 >>= _) _ _ s
  refine wpAny_bind (wpAny_field ho hd (x := .int i 0) rfl ?_)
  show wpAny _ _ (seqItems? (.ref l) >>= _) _ _ s
  refine wpAny_bind (wpAny_seqItems hol hdl ?_)
  simp only [Int.toNat_natCast, hx]
  refine wpAny_bind (wpAny_setField ho hd (by simp) (wpAny_pure ⟨x, rfl, wpAny_pure (hQ _ ?_ (Heap.SameBut.update ..))⟩))
  exact ⟨_, Heap.get?_update_self _ ho (Obj.isFreed_of_fields (Obj.data_mapFields hd _)), (Obj.cls_mapFields ..).trans hc, by
    rw [Obj.data_mapFields hd]; simp [rawInt]⟩
theorem nextOf_tuple_end {it l : Addr} {i : Nat} {items} {Q : Value → Shared → Prop} (hh : A.handled = none)
    (hit : s.heap.IsTupleIter it l i) (hl : s.heap.IsTuple l items) (hx : items[i]? = none)
    (hE : ∀ h' e, Heap.ExtBut it s.heap h' → (∃ o, h'.get? e = some o ∧ o.cls = .type "StopIteration") → E (.ref e) { s with heap := h' }) :
    wpAny (model prog w) A (Builtin.SmallTypes.nextOf (.ref it)) Q E s := by
  obtain ⟨o, ho, hc, hd⟩ := id hit
  obtain ⟨ol, hol, _, nl, hdl⟩ := hl
  unfold Builtin.SmallTypes.nextOf
  refine wpAny_bind (wpAny_callSpecial?_slot (name := Str.ofString "__next__") hit.typeIs F.slot_tuple_iterator_next
    (wpAny_call_entry F.slot_tuple_iterator_next hit.typeIs F.entry_tuple_iterator_next ?_ (F.args_tuple_iterator_next_1 _)))
  show wpAny _ _ (field (.ref it) 0 >>= _) _ _ s
  refine wpAny_bind (wpAny_field ho hd (x := .ref l) rfl ?_)
  show wpAny _ _ (if (Value.ref l == Value.none) = true then _ else _) _ _ s
  rw [if_neg (show ¬ ((Value.ref l == Value.none) = true) from Bool.false_ne_true)]
  show wpAny _ _ (field (.ref it) 1 >>= _) _ _ s
  refine wpAny_bind (wpAny_field ho hd (x := .int i 0) rfl ?_)
  show wpAny _ _ (seqItems? (.ref l) >>= _) _ _ s
  refine wpAny_bind (wpAny_seqItems hol hdl ?_)
  simp only [Int.toNat_natCast, hx]
  refine wpAny_bind (wpAny_rule (wpAny_bind (wpAny_setField ho hd (by simp) ?_)))
  show wpAny _ _ (newExc (.type "StopIteration") [] >>= _) _ _ _
  refine wpAny_bind ?_
  simp only [newExc, newTuple]
  refine wpAny_bind (wpAny_newObj_type ?_ (by size_fits))
  refine wpAny_bind (m := firstArgMember _ _) (wpAny_of_eq (a := Value.none) (by first | rfl | (simp only [firstArgMember]; rfl)) ?_)
  refine wpAny_newObj_type ?_ (by size_fits)
  simp only [raiseNew]
  refine wpAny_bind (wpAny_handled ?_)
  first | rw [show A.in1.handled = none from hh] | rw [hh]
  refine wpAny_bind (wpAny_pure (wpAny_throw ?_))
  exact hE _ _ (((Heap.SameBut.update ..).extBut.push _).push _) ⟨_, Heap.get?_push_size _ rfl, rfl⟩
end
theorem drawsTuple {prog : Program} {w : World} {A : Around} (hh : A.handled = none) (it l : Addr) (hne : l ≠ it) (items : Array Value) :
    Draws prog w A it [it, l] items.size (fun i v => items[i]? = some v) (fun i h => h.IsTupleIter it l i ∧ h.IsTuple l items) where
  live := fun _ _ st => let ⟨o, ho, _⟩ := st.1; ⟨o, ho⟩
  frame := fun _ _ _ st hk => ⟨st.1.at fun o e => hk it (by simp) o e, st.2.at fun o e => hk l (by simp) o e⟩
  item := fun i s Q E hi st hQ => by
    refine nextOf_tuple_item st.1 st.2 (x := items[i]) (by simp [hi]) fun h' hit' hs' => ?_
    exact hQ _ h' s.toks (by simp [hi]) ⟨hit', st.2.at fun o e => (hs'.2 l hne).trans e⟩ hs'
  done := fun s Q E st hE => nextOf_tuple_end hh st.1 st.2 (by simp) hE
theorem meets_enumerate_newT (l : Addr) (items : Array Value) (n : Nat) (dct : Option Addr) (sl : Array (Option Value)) :
    Meets (Builtin.«enumerate.__new__» ⟨[.type "enumerate", .ref l], []⟩) (fun _ R s => s.heap.get? l = some { cls := .type "tuple", dict := dct, data := .seq items n, slots := sl } ∧
      R (.ok (.ret (.ref (s.heap.push { cls := .type "tuple_iterator", data := .fields #[.ref l, .int 0 0] }).objs.size)))
        { s with heap := (s.heap.push { cls := .type "tuple_iterator", data := .fields #[.ref l, .int 0 0] }).push { cls := .type "enumerate", data := .fields #[.none, .bool false, .ref s.heap.objs.size, rawInt 0, .none, .none] } }) :=
  .of_wp fun prog w A R s h => by
    obtain ⟨hp, g, d, tk, os⟩ := s; obtain ⟨hl, h⟩ := h
    have hsub := sub_enumerate
    have hL : Heap.IsTuple (Shared.heap ⟨hp, g, d, tk, os⟩) l items := ⟨_, hl, rfl, n, rfl⟩
    wp_walk using wpAny_loadPart' hl
    refine wpAny_stack_any fun st => wpAny_pure ?_
    split
    · rename_i c _ _ _ _ _
      cases (c == Value.type "enumerate")
      · wp_walk using wpAny_loadPart' hl, wpAny_pyIter_tuple hL
        exact ⟨_, rfl, h⟩
      · wp_walk using wpAny_loadPart' hl, wpAny_pyIter_tuple hL
        exact ⟨_, rfl, h⟩
    · wp_walk using wpAny_loadPart' hl, wpAny_pyIter_tuple hL
      exact ⟨_, rfl, h⟩
section
variable {prog : Program} {w : World} {A : Around} {E : Value → Shared → Prop} {s : Shared}
theorem call_enumerate_tuple {l : Addr} {items : Array Value} {Q : Value → Shared → Prop} (hL : s.heap.IsTuple l items)
    (h : ∀ h', IsEnum h' (s.heap.objs.size + 1) s.heap.objs.size 0 .none → h'.IsTupleIter s.heap.objs.size l 0 → h'.objs.size = s.heap.objs.size + 2 →
      (∀ b o, s.heap.get? b = some o → h'.get? b = some o) → Q (.ref (s.heap.objs.size + 1)) { s with heap := h' }) :
    wpAny (model prog w) A (call (.type "enumerate") [.ref l]) Q E s := by
  obtain ⟨⟨c, dct, dt, sl⟩, hl, hc, n, hd⟩ := hL
  replace hc : c = .type "tuple" := hc
  replace hd : dt = .seq items n := hd
  subst hc hd
  refine callType_new F.called_enumerate (by decide) (F.typeCall_enumerate_1 _) (F.newCall_enumerate_1 _) (fun obj => F.args_object_init_2 obj _) F.entry_enumerate_new
    (meets_enumerate_newT l items n dct sl) ⟨hl, ?_⟩
  have hz : (s.heap.push { cls := .type "tuple_iterator", data := .fields #[.ref l, .int 0 0] }).objs.size = s.heap.objs.size + 1 := Heap.size_push ..
  show _ ∧ _
  rw [hz]
  have he : IsEnum ((s.heap.push { cls := .type "tuple_iterator", data := .fields #[.ref l, .int 0 0] }).push
      { cls := .type "enumerate", data := .fields #[.none, .bool false, .ref s.heap.objs.size, rawInt 0, .none, .none] }) (s.heap.objs.size + 1) s.heap.objs.size 0 .none := by
    have := Heap.get?_push_size (s.heap.push { cls := .type "tuple_iterator", data := .fields #[.ref l, .int 0 0] })
      (o := { cls := .type "enumerate", data := .fields #[.none, .bool false, .ref s.heap.objs.size, rawInt 0, .none, .none] }) rfl
    rw [hz] at this; exact this
  refine ⟨⟨_, he, rfl⟩, h _ he ⟨_, Heap.get?_push_of_some _ (Heap.get?_push_size _ rfl), rfl, rfl⟩ (by rw [Heap.size_push, hz]) fun b o x => Heap.get?_push_of_some _ (Heap.get?_push_of_some _ x)⟩
end
theorem enum_end_tuple {prog : Program} {w : World} {A : Around} {E : Value → Shared → Prop} {s : Shared} {e it l : Addr} {i : Nat} {items : Array Value} {old : Value} {Q : Option Value → Shared → Prop} (hh : A.in1.handled = none)
    (he : IsEnum s.heap e it i old) (hit : s.heap.IsTupleIter it l i) (hl : s.heap.IsTuple l items) (hx : items.size ≤ i)
    (hQ : ∀ h', Heap.ExtBut it s.heap h' → Q none { s with heap := h' }) : wpAny (model prog w) A (pyNext (.ref e)) Q E s := by
  have hT : s.TypeIs (.ref e) "enumerate" := ⟨_, he, rfl⟩
  unfold pyNext
  refine wpAny_bind (wpAny_attempt (wpAny_callSpecial?_slot (name := Str.ofString "__next__") hT F.slot_enumerate_next
    (wpAny_call_entry F.slot_enumerate_next hT F.entry_enumerate_next ?_ (F.args_enumerate_next_1 _))))
  show wpAny _ _ (field (.ref e) 2 >>= _) _ _ _
  refine wpAny_bind (wpAny_field he rfl (x := .ref it) rfl ?_)
  refine wpAny_bind (nextOf_tuple_end hh hit hl (by simpa using hx) fun h' x he' hx' => ?_)
  obtain ⟨o, ho, hc⟩ := hx'
  refine wpAny_bind (wpAny_isInstance (T := "StopIteration") (b := true) ⟨o, ho, hc⟩ isSubtype_stop ?_)
  exact wpAny_pure (hQ _ he')
/-- *e, the fragment told by hand -/
theorem pa_starK {X : Cx} {K : PySem.W.Frag} {e : Expr} {es : List Expr} {te : TE} {t : TA} {p : Pos} (hK : X.K = K) (he : PE X e te) (hr : PA X es t) (hs : starEach (.Starred e p :: es) X.env = (true, eval e X.env) :: starEach es X.env := by rfl) : PA X (.Starred e p :: es) (StX.tStar K te t) := by
  subst hK
  exact StX.pa_star he hr hs
/-- the tuple at a, each item in a new pair -/
def Iten (K : PySem.W.Frag) (a : Addr) : It :=
  ⟨fun i H => ∃ (xs : List V) (x : V), SqT K H a xs ∧ xs[i]? = some x, fun i H v H' => ∃ T x, v = .ref T ∧ H T = none ∧ H' = upd H T (.tup [.int (i : Nat), x]) ∧ ∀ xs, SqT K H a xs → xs[i]? = some x, fun i H => ∃ xs : List V, SqT K H a xs ∧ xs.length ≤ i⟩
theorem turn_enumT {P : Program} {w : World} {K : PySem.W.Frag} {elts : List Expr} {kk : Nat} {tpos : Pos} (a e it : Addr) :
    Turn P w K (.Tuple elts kk tpos) (Iten K a) [e, it] e (fun i h => (∃ old, IsEnum h e it ((i : Nat) : Int) old) ∧ h.IsTupleIter it a i ∧ e ≠ it ∧ a ≠ it ∧ a ≠ e) where
  mem := by simp
  obj := fun i h st b hb => by
    obtain ⟨⟨old, he⟩, ⟨o, ho, hc, hd⟩, _⟩ := st
    have e' : b = e ∨ b = it := by simpa using hb
    rcases e' with z | z
    · rw [z]; exact ⟨_, he, fun v q => nomatch q⟩
    · rw [z]; exact ⟨o, ho, fun v q => by rw [hd] at q; cases q⟩
  keep := fun i h h' st k => let ⟨⟨old, he⟩, hi, hne⟩ := st; ⟨⟨old, k e (by simp) _ he⟩, hi.at fun o q => k it (by simp) o q, hne⟩
  item := by
    intro X hP hw hK hc i pins s σ H E I hf st hg
    subst hP hw hK
    obtain ⟨⟨old, he⟩, hit, hne, hai, hae⟩ := st
    obtain ⟨xs, x, hq, hx⟩ := hg
    obtain ⟨its, rv, p, hz⟩ := I.tuple hq
    obtain ⟨u, hu, ru⟩ := rv.get hx
    have hel : e < s.heap.objs.size := Heap.lt_size he
    have hil : it < s.heap.objs.size := by obtain ⟨_, q, _⟩ := hit; exact Heap.lt_size q
    have hlt : i < its.toArray.size := by
      rw [List.size_toArray]
      exact (List.getElem?_eq_some_iff.mp hu).1
    have hh1 : X.A.in1.handled = none := I.ok.hd hc
    refine wpAny_pyNext_enum_itemD (drawsTuple (prog := X.prog) (w := X.w) (A := X.A.in1) hh1 it a hai its.toArray) he ⟨hit, p⟩ hlt hne (by simp [hne, hae.symm]) fun y h' tk hy ho hit' hT hsz hk => ?_
    have ey : y = u := by
      have h1 : its[i]? = some y := by simpa using hy
      rw [hu] at h1
      exact (Option.some.inj h1).symm
    subst ey
    refine ⟨_, rfl, wpAny_letOwnedTupleGo_enum (s := { s with heap := h', toks := tk + 1 }) ho fun h'' he' sb => ?_⟩
    have hT2 : h''.get? s.heap.objs.size = some { cls := .type "tuple", data := .seq #[.int i tk, y] } := (sb.2 _ (Nat.ne_of_gt hel)).trans hT
    have new : ObjOk X.prog X.w (upd H s.heap.objs.size (.tup [.int (i : Nat), x])) h'' s.heap.objs.size (.tup [.int (i : Nat), x]) :=
      ⟨by show 2 ≤ sizeLine; decide, [.int i tk, y], .cons ⟨_, rfl⟩ (.cons ru .nil), ⟨_, hT2, rfl, _, rfl⟩⟩
    have I1 : Inv X pins σ (upd H s.heap.objs.size (.tup [.int (i : Nat), x])) { s with heap := h'', toks := tk + 1 } :=
      I.turnedNew (ch := [e, it]) (fun b ob hb q => (sb.2 b (fun z => hb (by simp [z]))).trans (hk b ob (fun z => hb (by simp [z])) (fun z => hb (by simp [z])) q)) hf (Nat.le_refl _) new
    refine ⟨.ref s.heap.objs.size, _, I1, rfl, ⟨_, x, rfl, I.hok.fresh (Nat.le_refl _), rfl, fun ys hy => by rw [I.tuple_inj hy hq]; exact hx⟩, ⟨⟨y, ?_⟩, hit'.1.at fun o q => (sb.2 it (Ne.symm hne)).trans q, hne, hai, hae⟩, fun b hb => ?_⟩
    · have e1 : ((i + 1 : Nat) : Int) = (i : Int) + 1 := by omega
      rw [e1]; exact he'
    · have hb' : b < s.heap.objs.size := by
        have e' : b = e ∨ b = it := by simpa using hb
        rcases e' with z | z
        · rw [z]; exact hel
        · rw [z]; exact hil
      rw [upd_ne (Nat.ne_of_lt hb')]
      exact (hf b hb).1
  done := by
    intro X hP hw hK hc i pins s σ H E I hf st hg
    subst hP hw hK
    obtain ⟨⟨old, he⟩, hit, hne, hai, hae⟩ := st
    obtain ⟨xs, hq, hx⟩ := hg
    obtain ⟨its, rv, p, hz⟩ := I.tuple hq
    obtain ⟨f0, f1, f2, f3, f4, f5⟩ := hf it (by simp)
    have hl := rv.length
    have hh1 : X.A.in1.handled = none := I.ok.hd hc
    have hle : its.toArray.size ≤ i := by rw [List.size_toArray]; omega
    exact enum_end_tuple hh1 he hit p hle fun h' eb => ⟨rfl, I.turned (t' := s.toks) (fun b o hb q => eb b o hb q) f0 f1 f3 f4 f5⟩
  self := fun A i s Q E st h => let ⟨⟨_, he⟩, _⟩ := st; wpAny_pyIter_enum he h
def iEnumT (K : PySem.W.Frag) (ta : TA) : TI := fun σ H R => ta σ H fun vs H1 => ∃ a xs, vs = [.ref a] ∧ SqT K H1 a xs ∧ R (Iten K a) H1
theorem pi_enumT {X : Cx} {e : Expr} {ta : TA} {p pos tpos : Pos} {elts : List Expr} {kk : Nat} (hg : Gl X "enumerate") (hm : X.mg "enumerate" = none) (ha : PA X [e] ta) (hs : starEach [e] X.env = [(false, eval e X.env)] := by rfl) :
    PI X (.Tuple elts kk tpos) (.Call (.Name "enumerate" p) [e] [] pos) (iEnumT X.K ta) := by
  refine ⟨fun pins s σ H R I h => ?_⟩
  refine Call_ (ld_blt I hg hm boot_enumerate (PyProof.Rows.callWith_type1 (thn (ha.run pos pins s σ H _ I h) fun us s1 ⟨vs, H1, I1, r1, q1⟩ => ?_) hs rfl))
  obtain ⟨a, xs, ex, hq, q⟩ := q1
  subst ex
  cases r1 with
  | cons r rr =>
    cases rr
    cases r
    obtain ⟨its, rv, p', hz⟩ := I1.tuple hq
    have hal : a < s1.heap.objs.size := by
      obtain ⟨o, ho, _⟩ := id p'
      exact Heap.lt_size ho
    refine call_enumerate_tuple p' fun h' he hit hsz hk => wpAny_pyIter_enum he ?_
    have I2 : Inv X pins σ H1 { s1 with heap := h' } := I1.kept (t' := s1.toks) hk
    refine ⟨s1.heap.objs.size + 1, [s1.heap.objs.size + 1, s1.heap.objs.size], _, _, H1, rfl, I2, turn_enumT a (s1.heap.objs.size + 1) s1.heap.objs.size, ⟨⟨.none, he⟩, hit, Nat.succ_ne_self _, Nat.ne_of_lt hal, Nat.ne_of_lt (Nat.lt_succ_of_lt hal)⟩, fun b hb => ?_, q⟩
    have e' : b = s1.heap.objs.size + 1 ∨ b = s1.heap.objs.size := by simpa using hb
    have hle : s1.heap.objs.size ≤ b := by
      rcases e' with z | z
      · rw [z]; exact Nat.le_add_right _ _
      · rw [z]; exact Nat.le_refl _
    exact I1.fpOk hle (I1.hok.fresh hle)
theorem walk_enumT {K : PySem.W.Frag} {a : Addr} {xs : List V} : Walk (Iten K a) xs.length (fun H => SqT K H a xs) (YPair (fun i => some (.int (i : Nat))) (fun i => xs[i]?)) := by
  refine ⟨fun i _ hi q => ⟨xs, xs[i], q, by simp [hi]⟩, fun _ q => ⟨xs, q, Nat.le_refl _⟩, fun i H v H' _ q y => ?_⟩
  obtain ⟨T, x, h1, h2, h3, h4⟩ := y
  exact ⟨T, .int (i : Nat), x, h1, h2, h3, rfl, h4 xs q⟩
end Tc
/-! Places in terms: parts, the term at a place, another term put there. -/
namespace Tc
open PySem PySem.Spec PyProof.Rows L2 LamX

def Hd.opens : Hd → Bool
  | .pair | .same | .call _ => true
  | _ => false
/-- the parts that may be gone into -/
def Trm.parts (t : Trm) : List Trm := if t.hd.opens then t.kids else []
mutual
def Trm.places : Trm → List Int → List (List Int × Trm)
  | .mk h ks, pl => (pl, .mk h ks) :: (if h.opens then placesL ks pl 0 else [])
def placesL : List Trm → List Int → Int → List (List Int × Trm)
  | [], _, _ => []
  | t :: ts, pl, i => t.places (pl ++ [i]) ++ placesL ts pl (i + 1)
end
def partAt : Trm → List Int → Option Trm
  | t, [] => some t
  | t, i :: is => if 0 ≤ i then (match t.parts[i.toNat]? with
    | some u => partAt u is
    | none => none) else none
def putAt : Trm → List Int → Trm → Trm
  | _, [], o => o
  | .mk h ks, i :: is, o => match ks[i.toNat]? with
    | some u => .mk h (ks.set i.toNat (putAt u is o))
    | none => .mk h ks
theorem parts_len (t : Trm) : t.parts.length ≤ t.kids.length := by
  unfold Trm.parts
  split
  · exact Nat.le_refl _
  · exact Nat.zero_le _
theorem parts_mem {t u : Trm} (h : u ∈ t.parts) : u ∈ t.kids := by
  unfold Trm.parts at h
  split at h
  · exact h
  · cases h
theorem ok_parts {t : Trm} (o : t.ok = true) : oks t.parts = true := oks_of fun u hu => oks_mem (ok_kids o) (parts_mem hu)
theorem places_eq (t : Trm) (pl : List Int) : t.places pl = (pl, t) :: placesL t.parts pl 0 := by
  obtain ⟨h, ks⟩ := t
  rw [Trm.places]
  unfold Trm.parts Trm.hd Trm.kids
  dsimp only
  split
  · rfl
  · rw [placesL]
/-! ### what stands in a term's tuple -/
def Hd.word : Hd → Str
  | .nil => "nil" | .nm _ => "name" | .pair => "pair" | .same => "same" | .call _ => "call" | .case _ _ _ => "case"
def Hd.rest : Hd → List PyData → List PyData
  | .nil, _ => []
  | .nm x, _ => [.str x]
  | .pair, ks => ks
  | .same, ks => ks
  | .call f, ks => [.str f, .tuple ks]
  | .case x h r, ks => [.str x, ks.getD 0 .none, .str h, .str r, ks.getD 1 .none]
theorem lay_eq (h : Hd) (ks : List PyData) : lay h ks = .tuple (.str h.word :: h.rest ks) := by
  cases h <;> rfl
theorem top_of {K : PySem.W.Frag} {H : Hp} {v : V} {h : Hd} {ks : List Trm} (hv : TmAt K H v (.mk h ks)) : ∃ (p : Addr) (xs : List V), v = .ref p ∧ SqT K H p (.str h.word :: xs) ∧ DpAll K H xs (h.rest (datas ks)) := by
  have hd := hv.1
  rw [Trm.data, lay_eq] at hd
  cases hd with
  | tup q a =>
    cases a with
    | cons a0 a =>
      cases a0
      exact ⟨_, _, rfl, q, a⟩
/-- what inner_parts gives -/
def spParts (K : PySem.W.Frag) : Sp := fun vs H Q _ => ∃ (v : V) (t : Trm), vs = [v] ∧ TmAt K H v t ∧ ∀ (q : Addr) (us : List V) (H' : Hp), Same H H' → SqT K H' q us → Paired (TmAt K H') us t.parts → Q (.ref q) H'
def tParts (K : PySem.W.Frag) : TS := tSeq (tIfS (tTest (tOp rEq (tOp (rIx K) (tVar 0) (tC (.int 0))) (tC (.str "call")))) (tRet (tOp (rIx K) (tVar 0) (tC (.int 2)))) tNext)
  (tRet (tIf (tTest (tOp (rIn K false) (tOp (rIx K) (tVar 0) (tC (.int 0))) (tTup (tCons (tC (.str "pair")) (tCons (tC (.str "same")) tNil))))) (tSl (rSlA K) (tVar 0) (tPart (tC (.int 1))) tNoPart) (tTup tNil)))
theorem parts_sem {K : PySem.W.Frag} {H : Hp} {v : V} {t : Trm} {σ : L2.St} {D : Ends} (hσ : σ[0]? = some (some v)) (hv : TmAt K H v t) (k : ∀ (q : Addr) (us : List V) (H' : Hp), Same H H' → SqT K H' q us → Paired (TmAt K H') us t.parts → D.rt (.ref q) H') : tParts K D σ H := by
  obtain ⟨h, ks⟩ := t
  have hok := ok_mk hv.2
  obtain ⟨p, xs, rfl, hq, ha⟩ := top_of hv
  have at0 : atI (.str h.word :: xs) 0 = some (.str h.word) := at_of (j := 0) (by simp) rfl
  have other : ∀ r : List V, h.opens = false → (∀ H', Same H H' → SqT K H' p (.str h.word :: xs)) → h.word ≠ "call" → inV (.str h.word) [.str "pair", .str "same"] = false → tParts K D σ H := by
    intro _ ho _ hc hi
    refine ts_word hσ hq at0 (fun z => absurd z hc) (fun _ => iteF ?_)
    refine rd_ix hσ hq at0 ⟨Nat.le_of_lt (small1000 (by simp)), fun a na => ⟨a, [.str "pair", .str "same"], rfl, .inr (SqT.of upd_same), rfl, rfl, _, rfl, ?_⟩⟩
    refine if_no hi ⟨Nat.zero_le _, fun r nr => k r [] _ ((Same.new na).trans (Same.new nr)) (SqT.of upd_same) ?_⟩
    unfold Trm.parts Trm.hd
    dsimp only
    rw [if_neg (by rw [ho]; decide)]
    exact .nil
  have tail : h.opens = true → h.rest (datas ks) = datas ks → h.word ≠ "call" → inV (.str h.word) [.str "pair", .str "same"] = true → tParts K D σ H := by
    intro ho hr hc hi
    rw [hr] at ha
    refine ts_word hσ hq at0 (fun z => absurd z hc) (fun _ => iteF ?_)
    refine rd_ix hσ hq at0 ⟨Nat.le_of_lt (small1000 (by simp)), fun a na => ⟨a, [.str "pair", .str "same"], rfl, .inr (SqT.of upd_same), rfl, rfl, _, rfl, ?_⟩⟩
    have t1 : Ten H (upd H a (.tup [.str "pair", .str "same"])) := Ten.new na
    refine if_yes hi (rd_tail hσ (t1.tup hq) fun r nr => k r xs _ ((Same.new na).trans (Same.new nr)) (SqT.of upd_same) ?_)
    unfold Trm.parts Trm.hd Trm.kids
    dsimp only
    rw [if_pos ho]
    exact tms_ten (t1.trans (Ten.new nr)) (tms_of hok.2 ha)
  cases h with
  | nil => exact other [] rfl (fun H' s => (Ten.of_same s).tup hq) (by decide) (by decide +kernel)
  | nm x => exact other [] rfl (fun H' s => (Ten.of_same s).tup hq) (by show ("name" : Str) ≠ "call"; decide) (by show inV (.str "name") _ = _; decide +kernel)
  | case x a b => exact other [] rfl (fun H' s => (Ten.of_same s).tup hq) (by show ("case" : Str) ≠ "call"; decide) (by show inV (.str "case") _ = _; decide +kernel)
  | pair => exact tail rfl rfl (by decide) (by decide +kernel)
  | same => exact tail rfl rfl (by decide) (by decide +kernel)
  | call f =>
    clear other tail
    obtain ⟨x1, xs1, d1, ds1, rfl, e1, a1, a, hl1⟩ := dps_succ (n := 1) ha (by rw [dps_len ha]; rfl)
    obtain ⟨x2, xs2, d2, ds2, rfl, rfl, a2, a, hl2⟩ := dps_succ (n := 0) a hl1
    obtain ⟨rfl, rfl⟩ := dps_zero a hl2
    have e2 : d2 = .tuple (datas ks) := by
      injection e1 with _ e3
      injection e3 with e4 _
      exact e4.symm
    subst e2
    refine ts_word hσ hq at0 (fun _ => iteT ?_) (fun z => absurd rfl z)
    cases a2 with
    | tup q2 b2 =>
      refine rd_ix hσ hq (at_of (j := 2) (by simp) rfl) (k _ _ H (Same.refl H) q2 ?_)
      exact tms_of hok.2 b2

/-! ### all places -/
def kidsAt : List Trm → List Int → Int → List (List Int × Trm)
  | [], _, _ => []
  | t :: ts, pl, i => (pl ++ [i], t) :: kidsAt ts pl (i + 1)
theorem placesL_eq : ∀ {ks : List Trm} {pl : List Int} {i : Int}, placesL ks pl i = (kidsAt ks pl i).flatMap fun e => e.2.places e.1
  | [], pl, i => by rw [placesL, kidsAt, List.flatMap_nil]
  | t :: ts, pl, i => by rw [placesL, kidsAt, List.flatMap_cons, placesL_eq]
theorem kidsAt_len : ∀ {ks : List Trm} {pl : List Int} {i : Int}, (kidsAt ks pl i).length = ks.length
  | [], _, _ => rfl
  | t :: ts, pl, i => by rw [kidsAt, List.length_cons, List.length_cons, kidsAt_len]
theorem kidsAt_get : ∀ {ks : List Trm} {pl : List Int} {i : Int} {j : Nat}, (kidsAt ks pl i)[j]? = (ks[j]?).map fun t => (pl ++ [i + (j : Int)], t)
  | [], _, _, _ => by simp [kidsAt]
  | t :: ts, pl, i, 0 => by simp [kidsAt]
  | t :: ts, pl, i, j + 1 => by
    rw [kidsAt, List.getElem?_cons_succ, List.getElem?_cons_succ, kidsAt_get]
    have e : i + 1 + (j : Int) = i + ((j + 1 : Nat) : Int) := by omega
    rw [e]
mutual
theorem places_len : ∀ (t : Trm) (pl : List Int), (t.places pl).length ≤ t.size
  | .mk h ks, pl => by
    rw [Trm.places, Trm.size, List.length_cons]
    split
    · have := placesL_len ks pl 0
      omega
    · rw [List.length_nil]
      omega
theorem placesL_len : ∀ (ks : List Trm) (pl : List Int) (i : Int), (placesL ks pl i).length ≤ sizes ks
  | [], _, _ => by rw [placesL]; exact Nat.zero_le _
  | t :: ts, pl, i => by
    rw [placesL, List.length_append, sizes]
    have := places_len t (pl ++ [i])
    have := placesL_len ts pl (i + 1)
    omega
end
/-- (place, term) as a tuple -/
def PlAt (K : PySem.W.Frag) (H : Hp) (x : V) (e : List Int × Trm) : Prop := ∃ (a b : Addr) (v : V), x = .ref a ∧ SqT K H a [.ref b, v] ∧ SqT K H b (e.1.map V.int) ∧ TmAt K H v e.2
theorem PlAt.ten {K : PySem.W.Frag} {H H' : Hp} {x : V} {e : List Int × Trm} (t : Ten H H') (h : PlAt K H x e) : PlAt K H' x e := by
  obtain ⟨a, b, v, rfl, q, q2, d⟩ := h
  exact ⟨a, b, v, rfl, t.tup q, t.tup q2, TmAt.ten t d⟩
theorem pls_ten {K : PySem.W.Frag} {H H' : Hp} {xs : List V} {ts : List (List Int × Trm)} (e : Ten H H') (h : Paired (PlAt K H) xs ts) : Paired (PlAt K H') xs ts := L2.Paired.mapP h fun _ _ => PlAt.ten e
def spAllParts (K : PySem.W.Frag) : Sp := fun vs H Q _ => ∃ (v : V) (t : Trm), vs = [v] ∧ TmAt K H v t ∧ t.size ≤ 1000 ∧ t.deep ≤ 1000 ∧ ∀ (f : Addr) (fs : List V) (H' : Hp), Same H H' → H' f = some (.lst fs) → Paired (PlAt K H') fs (t.places []) → Q (.ref f) H'
theorem flat_len : ∀ {es : List (List Int × Trm)}, es.length ≤ (es.flatMap fun e => e.2.places e.1).length
  | [] => Nat.le_refl _
  | e :: es => by
    have := flat_len (es := es)
    rw [List.flatMap_cons, List.length_append, List.length_cons, places_eq, List.length_cons]
    omega

/-! ### places as data -/
def placeD (pl : List Int) : PyData := .tuple (pl.map PyData.int)
theorem dps_ints {K : PySem.W.Frag} {H : Hp} : ∀ {pl : List Int}, DpAll K H (pl.map V.int) (pl.map PyData.int)
  | [] => .nil
  | i :: pl => .cons (.int i) dps_ints
theorem dp_place {K : PySem.W.Frag} {H : Hp} {b : Addr} {pl : List Int} (q : SqT K H b (pl.map V.int)) : Dp K H (.ref b) (placeD pl) := .tup q dps_ints
theorem dps_append {K : PySem.W.Frag} {H : Hp} : ∀ {a b : List V} {c d : List PyData}, DpAll K H a c → DpAll K H b d → DpAll K H (a ++ b) (c ++ d)
  | _, _, _, _, .nil, h => h
  | _, _, _, _, .cons r t, h => .cons r (dps_append t h)
theorem ints_plain : ∀ (pl : List Int), plainAll (pl.map PyData.int) = true
  | [] => rfl
  | _ :: pl => by
    rw [List.map_cons, plainAll, ints_plain pl]
    rfl
theorem ten_ints {K : PySem.W.Frag} {H H' : Hp} : ∀ {pl : List Int} {vs : List V}, DpAll K H vs (pl.map PyData.int) → DpAll K H' vs (pl.map PyData.int)
  | [], _, h => by
    cases h
    exact .nil
  | i :: pl, _, h => by
    cases h with
    | cons a b =>
      cases a
      exact .cons (.int i) (ten_ints b)
theorem ten_places {K : PySem.W.Frag} {H H' : Hp} (t : Ten H H') : ∀ {es : List (List Int × Trm)} {vs : List V}, DpAll K H vs (es.map fun e => placeD e.1) → DpAll K H' vs (es.map fun e => placeD e.1)
  | [], _, h => by
    cases h
    exact .nil
  | e :: es, _, h => by
    cases h with
    | cons a b =>
      cases a with
      | tup q z => exact .cons (.tup (t.tup q) (ten_ints z)) (ten_places t b)
mutual
theorem places_deep : ∀ (t : Trm) (pl : List Int), ∀ e ∈ t.places pl, e.1.length + 1 ≤ pl.length + t.deep
  | .mk h ks, pl, e, he => by
    rw [Trm.places] at he
    rw [Trm.deep]
    rcases List.mem_cons.mp he with rfl | he
    · show pl.length + 1 ≤ pl.length + (1 + deeps ks)
      omega
    · split at he
      · have := placesL_deep ks pl 0 e he
        omega
      · cases he
theorem placesL_deep : ∀ (ks : List Trm) (pl : List Int) (i : Int), ∀ e ∈ placesL ks pl i, e.1.length ≤ pl.length + deeps ks
  | [], _, _, e, he => by
    rw [placesL] at he
    cases he
  | t :: ts, pl, i, e, he => by
    rw [placesL] at he
    rw [deeps]
    rcases List.mem_append.mp he with he | he
    · have := places_deep t (pl ++ [i]) e he
      rw [List.length_append, List.length_singleton] at this
      omega
    · have := placesL_deep ts pl (i + 1) e he
      omega
end
def spPlacesIn (K : PySem.W.Frag) : Sp := fun vs H Q E => ∃ v : V, vs = [v] ∧ ((∃ t : Trm, TmAt K H v t ∧ t.size ≤ 400 ∧ t.deep ≤ 40 ∧ ∀ (q : Addr) (us : List V) (H' : Hp), Same H H' → SqT K H' q us → DpAll K H' us ((t.places []).map fun e => placeD e.1) → Q (.ref q) H') ∨
  ∃ d : PyData, Dp K H v d ∧ plain d = true ∧ isTermD d = false ∧ Raises K "BadRow" [("row", v), ("what", .str "term")] H E)

/-! ### the part by a place, whatever the place is -/
def stepD (t : Trm) : PyData → Option Trm
  | .int i => if 0 ≤ i then t.parts[i.toNat]? else none
  | _ => none
def partsD : Trm → List PyData → Option Trm
  | t, [] => some t
  | t, d :: ds => match stepD t d with
    | some u => partsD u ds
    | none => none
def partD (t : Trm) : PyData → Option Trm
  | .tuple ds => partsD t ds
  | _ => none
theorem partsD_ints : ∀ {pl : List Int} {t : Trm}, partsD t (pl.map PyData.int) = partAt t pl
  | [], t => by rw [List.map_nil, partsD, partAt]
  | i :: pl, t => by
    rw [List.map_cons, partsD, partAt]
    show (match (if 0 ≤ i then t.parts[i.toNat]? else none) with | some u => partsD u (pl.map PyData.int) | none => none) = _
    split
    · rename_i u e
      split at e
      · rename_i h0
        rw [if_pos h0, e]
        exact partsD_ints
      · cases e
    · rename_i e
      split at e
      · rename_i h0
        rw [if_pos h0, e]
      · rename_i h0
        rw [if_neg h0]
def spPartBy (K : PySem.W.Frag) : Sp := fun vs H Q _ => ∃ (v x : V) (t : Trm) (d : PyData), vs = [v, x] ∧ TmAt K H v t ∧ Dp K H x d ∧ plain d = true ∧
  (partD t d = none → ∀ H', Same H H' → Q .non H') ∧ ∀ u, partD t d = some u → ∀ (y : V) (H' : Hp), Same H H' → TmAt K H' y u → Q y H'

/-! ### need_part -/
theorem kit_list {K : PySem.W.Frag} {d : PyData} (h : plain d = true) : PySem.W.kitOne K (.type (tyD d)) (.type "list") = some false := by
  cases d with
  | none => exact kit_ty (a := "NoneType") (b := "list") (r := false) (by decide +kernel)
  | bool b => exact kit_ty (a := "bool") (b := "list") (r := false) (by decide +kernel)
  | int i => exact kit_ty (a := "int") (b := "list") (r := false) (by decide +kernel)
  | str x => exact kit_ty (a := "str") (b := "list") (r := false) (by decide +kernel)
  | tuple xs => exact kit_ty (a := "tuple") (b := "list") (r := false) (by decide +kernel)
  | list xs => simp [plain] at h
  | dict xs => simp [plain] at h
/-- a place as it is given: plain data, or a list of ints -/
def Given (K : PySem.W.Frag) (H : Hp) (x : V) (d : PyData) : Prop := (Dp K H x d ∧ plain d = true) ∨ ∃ (l : Addr) (pl : List Int), x = .ref l ∧ H l = some (.lst (pl.map V.int)) ∧ pl.length ≤ 100000 ∧ d = placeD pl
theorem place_plain {pl : List Int} (h : pl.length ≤ 100000) : plain (placeD pl) = true := by
  show plain (.tuple (pl.map PyData.int)) = true
  rw [plain, ints_plain, List.length_map, Bool.and_true]
  exact decide_eq_true h
def spNeedPart (K : PySem.W.Frag) : Sp := fun vs H Q E => ∃ v x : V, vs = [v, x] ∧
  ((∃ b : PyData, Dp K H v b ∧ plain b = true ∧ isTermD b = false ∧ Raises K "BadRow" [("row", v), ("what", .str "term")] H E) ∨
   ∃ (t : Trm) (d : PyData), TmAt K H v t ∧ t.size ≤ 400 ∧ t.deep ≤ 40 ∧ Given K H x d ∧ (partD t d = none → Raises K "BadRow" [("row", x), ("what", .str "place")] H E) ∧
    (∀ u, partD t d = some u → ∀ (y : V) (H' : Hp), Same H H' → Dp K H' y d → plain d = true → Q y H'))

def spPartAt (K : PySem.W.Frag) : Sp := fun vs H Q E => ∃ v x : V, vs = [v, x] ∧
  ((∃ b : PyData, Dp K H v b ∧ plain b = true ∧ isTermD b = false ∧ Raises K "BadRow" [("row", v), ("what", .str "term")] H E) ∨
   ∃ (t : Trm) (d : PyData), TmAt K H v t ∧ t.size ≤ 400 ∧ t.deep ≤ 40 ∧ Given K H x d ∧ (partD t d = none → Raises K "BadRow" [("row", x), ("what", .str "place")] H E) ∧
    (∀ u, partD t d = some u → ∀ (y : V) (H' : Hp), Same H H' → TmAt K H' y u → Q y H'))

/-- another term put at a place that is there, n a bound of the place's length and one -/
def spWithBy (K : PySem.W.Frag) : Nat → Sp
  | 0 => fun _ _ _ _ => False
  | n + 1 => fun vs H Q _ => ∃ (v x y : V) (t o : Trm) (pl : List Int), vs = [v, x, y] ∧ TmAt K H v t ∧ (∃ p : Addr, x = .ref p ∧ SqT K H p (pl.map V.int)) ∧ TmAt K H y o ∧ pl.length ≤ n ∧ (partAt t pl).isSome = true ∧
    ∀ (z : V) (H' : Hp), Same H H' → TmAt K H' z (putAt t pl o) → Q z H'
end Tc
/-! Another term put at a place: what is there then; places lead to parts; the last place. -/
namespace Tc
open PySem PySem.Spec PyProof.Rows L2 LamX
open PySem PySem.Spec PyProof.Rows L2 LamX

theorem opens_of_parts {h : Hd} {ks : List Trm} {i : Nat} {u : Trm} (e : (Trm.mk h ks).parts[i]? = some u) : h.opens = true ∧ ks[i]? = some u := by
  unfold Trm.parts Trm.hd Trm.kids at e
  dsimp only at e
  split at e
  · rename_i o
    exact ⟨o, e⟩
  · simp at e
theorem partAt_cons {t : Trm} {i : Int} {is : List Int} {u : Trm} (e : partAt t (i :: is) = some u) : 0 ≤ i ∧ ∃ w, t.parts[i.toNat]? = some w ∧ partAt w is = some u := by
  rw [partAt] at e
  split at e
  · rename_i h0
    split at e
    · rename_i w ew
      exact ⟨h0, w, ew, e⟩
    · cases e
  · cases e
theorem partAt_step {t w : Trm} {i : Int} {is : List Int} (h0 : 0 ≤ i) (e : t.parts[i.toNat]? = some w) : partAt t (i :: is) = partAt w is := by
  rw [partAt, if_pos h0, e]
theorem putAt_step {h : Hd} {ks : List Trm} {i : Int} {is : List Int} {u o : Trm} (e : ks[i.toNat]? = some u) : putAt (.mk h ks) (i :: is) o = .mk h (ks.set i.toNat (putAt u is o)) := by
  rw [putAt, e]
theorem oks_set : ∀ {ks : List Trm} {i : Nat} {u : Trm}, oks ks = true → u.ok = true → oks (ks.set i u) = true
  | [], _, _, _, _ => rfl
  | t :: ks, 0, u, o, h => by
    have o' : t.ok = true ∧ oks ks = true := by simpa only [oks, Bool.and_eq_true] using o
    rw [List.set_cons_zero, oks, h, o'.2]
    rfl
  | t :: ks, i + 1, u, o, h => by
    have o' : t.ok = true ∧ oks ks = true := by simpa only [oks, Bool.and_eq_true] using o
    rw [List.set_cons_succ, oks, o'.1, oks_set o'.2 h]
    rfl
theorem sizes_set : ∀ {ks : List Trm} {i : Nat} {u w : Trm}, ks[i]? = some w → sizes (ks.set i u) + w.size = sizes ks + u.size
  | [], _, _, _, e => by simp at e
  | t :: ks, 0, u, w, e => by
    have e' : t = w := by simpa using e
    subst e'
    rw [List.set_cons_zero, sizes, sizes]
    omega
  | t :: ks, i + 1, u, w, e => by
    rw [List.getElem?_cons_succ] at e
    rw [List.set_cons_succ, sizes, sizes]
    have := sizes_set (u := u) e
    omega
theorem deeps_set : ∀ {ks : List Trm} {i : Nat} {u : Trm}, deeps (ks.set i u) ≤ max (deeps ks) u.deep
  | [], _, _ => by rw [List.set_nil, deeps]; omega
  | t :: ks, 0, u => by
    rw [List.set_cons_zero, deeps, deeps]
    omega
  | t :: ks, i + 1, u => by
    rw [List.set_cons_succ, deeps, deeps]
    have := deeps_set (ks := ks) (i := i) (u := u)
    omega
theorem putAt_ok : ∀ {pl : List Int} {t o u : Trm}, partAt t pl = some u → t.ok = true → o.ok = true → (putAt t pl o).ok = true
  | [], t, o, _, _, _, h => by rw [putAt]; exact h
  | i :: is, .mk hd ks, o, u, e, ht, h => by
    obtain ⟨h0, w, ew, e2⟩ := partAt_cons e
    obtain ⟨_, ek⟩ := opens_of_parts ew
    obtain ⟨hf, hk⟩ := ok_mk ht
    have hw := putAt_ok e2 (oks_mem hk (List.mem_of_getElem? ek)) h
    rw [putAt_step ek, Trm.ok, List.length_set, hf, oks_set hk hw]
    rfl
theorem putAt_size : ∀ {pl : List Int} {t o u : Trm}, partAt t pl = some u → (putAt t pl o).size ≤ t.size + o.size
  | [], t, o, _, _ => by rw [putAt]; omega
  | i :: is, .mk hd ks, o, u, e => by
    obtain ⟨h0, w, ew, e2⟩ := partAt_cons e
    obtain ⟨_, ek⟩ := opens_of_parts ew
    have h1 := putAt_size (o := o) e2
    have h2 := sizes_set (u := putAt w is o) ek
    rw [putAt_step ek, Trm.size, Trm.size]
    omega
theorem putAt_deep : ∀ {pl : List Int} {t o u : Trm}, partAt t pl = some u → (putAt t pl o).deep ≤ t.deep + o.deep
  | [], t, o, _, _ => by rw [putAt]; omega
  | i :: is, .mk hd ks, o, u, e => by
    obtain ⟨h0, w, ew, e2⟩ := partAt_cons e
    obtain ⟨_, ek⟩ := opens_of_parts ew
    have h1 := putAt_deep (o := o) e2
    have h2 := deeps_set (ks := ks) (i := i.toNat) (u := putAt w is o)
    have h3 := deeps_mem (List.mem_of_getElem? ek)
    rw [putAt_step ek, Trm.deep, Trm.deep]
    omega
theorem set_same : ∀ {ks : List Trm} {i : Nat} {u : Trm}, ks[i]? = some u → ks.set i u = ks
  | [], _, _, e => by simp at e
  | t :: ks, 0, u, e => by
    have e' : t = u := by simpa using e
    rw [List.set_cons_zero, e']
  | t :: ks, i + 1, u, e => by
    rw [List.getElem?_cons_succ] at e
    rw [List.set_cons_succ, set_same e]
theorem putAt_self : ∀ {pl : List Int} {t u : Trm}, partAt t pl = some u → putAt t pl u = t
  | [], t, u, e => by
    rw [partAt] at e
    rw [putAt, Option.some.inj e]
  | i :: is, .mk hd ks, u, e => by
    obtain ⟨h0, w, ew, e2⟩ := partAt_cons e
    obtain ⟨_, ek⟩ := opens_of_parts ew
    rw [putAt_step ek, putAt_self e2, set_same ek]
theorem partAt_ok : ∀ {pl : List Int} {t u : Trm}, partAt t pl = some u → t.ok = true → u.ok = true
  | [], t, u, e, h => by
    rw [partAt] at e
    rw [← Option.some.inj e]
    exact h
  | i :: is, t, u, e, h => by
    obtain ⟨h0, w, ew, e2⟩ := partAt_cons e
    exact partAt_ok e2 (oks_mem (ok_kids h) (parts_mem (List.mem_of_getElem? ew)))
theorem sizes_mem : ∀ {ts : List Trm} {t : Trm}, t ∈ ts → t.size ≤ sizes ts
  | [], _, h => nomatch h
  | u :: ts, t, h => by
    rw [sizes]
    rcases List.mem_cons.mp h with rfl | h
    · omega
    · have := sizes_mem h
      omega
theorem partAt_small : ∀ {pl : List Int} {t u : Trm}, partAt t pl = some u → u.size ≤ t.size ∧ pl.length + u.deep ≤ t.deep
  | [], t, u, e => by
    rw [partAt] at e
    rw [← Option.some.inj e]
    exact ⟨Nat.le_refl _, by show 0 + _ ≤ _; omega⟩
  | i :: is, t, u, e => by
    obtain ⟨h0, w, ew, e2⟩ := partAt_cons e
    have hm := parts_mem (List.mem_of_getElem? ew)
    have h1 := sizes_mem hm
    have h2 := deeps_mem hm
    obtain ⟨h3, h4⟩ := partAt_small e2
    rw [size_kids t, deep_kids t, List.length_cons]
    constructor <;> omega
theorem partAt_append : ∀ {p q : List Int} {t u : Trm}, partAt t p = some u → partAt t (p ++ q) = partAt u q
  | [], q, t, u, e => by
    rw [partAt] at e
    rw [Option.some.inj e, List.nil_append]
  | i :: is, q, t, u, e => by
    obtain ⟨h0, w, ew, e2⟩ := partAt_cons e
    rw [List.cons_append, partAt_step h0 ew, partAt_append e2]
/-! ### places lead to parts -/
mutual
theorem places_lead : ∀ (t : Trm) (pl : List Int), ∀ e ∈ t.places pl, ∃ q, e.1 = pl ++ q ∧ partAt t q = some e.2
  | .mk h ks, pl, e, he => by
    rw [Trm.places] at he
    rcases List.mem_cons.mp he with rfl | he
    · exact ⟨[], (List.append_nil _).symm, rfl⟩
    · split at he
      · rename_i ho
        obtain ⟨j, q, u, e1, e2, e3⟩ := placesL_lead ks pl 0 e he
        refine ⟨(j : Int) :: q, by rw [e1]; simp, ?_⟩
        rw [partAt_step (w := u) (by omega) (by
          unfold Trm.parts Trm.hd Trm.kids
          dsimp only
          rw [if_pos ho]
          exact e2)]
        exact e3
      · cases he
theorem placesL_lead : ∀ (ks : List Trm) (pl : List Int) (i : Int), ∀ e ∈ placesL ks pl i, ∃ (j : Nat) (q : List Int) (u : Trm), e.1 = pl ++ (i + (j : Int)) :: q ∧ ks[j]? = some u ∧ partAt u q = some e.2
  | [], _, _, e, he => by
    rw [placesL] at he
    cases he
  | t :: ts, pl, i, e, he => by
    rw [placesL] at he
    rcases List.mem_append.mp he with he | he
    · obtain ⟨q, e1, e2⟩ := places_lead t (pl ++ [i]) e he
      exact ⟨0, q, t, by rw [e1]; simp, rfl, e2⟩
    · obtain ⟨j, q, u, e1, e2, e3⟩ := placesL_lead ts pl (i + 1) e he
      refine ⟨j + 1, q, u, ?_, by rw [List.getElem?_cons_succ]; exact e2, e3⟩
      rw [e1]
      congr 2
      omega
end
theorem places_part {t : Trm} {e : List Int × Trm} (h : e ∈ t.places []) : partAt t e.1 = some e.2 := by
  obtain ⟨q, e1, e2⟩ := places_lead t [] e h
  rw [e1, List.nil_append]
  exact e2
/-! ### the last place has no parts -/
mutual
theorem places_last : ∀ (t : Trm) (pl : List Int), ∃ e, (t.places pl).getLast? = some e ∧ e.2.parts = []
  | .mk h ks, pl => by
    rw [Trm.places]
    split
    · rename_i ho
      match hk : ks with
      | [] =>
        refine ⟨(pl, .mk h []), by rw [placesL]; rfl, ?_⟩
        unfold Trm.parts Trm.hd Trm.kids
        dsimp only
        rw [if_pos ho]
      | k :: ks' =>
        obtain ⟨e, e1, e2⟩ := placesL_last (k :: ks') pl 0 (by simp)
        exact ⟨e, by rw [List.getLast?_cons, e1]; rfl, e2⟩
    · rename_i ho
      refine ⟨(pl, .mk h ks), rfl, ?_⟩
      unfold Trm.parts Trm.hd
      dsimp only
      rw [if_neg ho]
theorem placesL_last : ∀ (ks : List Trm) (pl : List Int) (i : Int), ks ≠ [] → ∃ e, (placesL ks pl i).getLast? = some e ∧ e.2.parts = []
  | [], _, _, h => absurd rfl h
  | [t], pl, i, _ => by
    obtain ⟨e, e1, e2⟩ := places_last t (pl ++ [i])
    exact ⟨e, by rw [placesL, placesL, List.append_nil]; exact e1, e2⟩
  | t :: t2 :: ts, pl, i, _ => by
    obtain ⟨e, e1, e2⟩ := placesL_last (t2 :: ts) pl (i + 1) (by simp)
    exact ⟨e, by rw [placesL, List.getLast?_append, e1]; rfl, e2⟩
end
/-! ### odd places -/
theorem odd_none {t : Trm} : partD t .none = none := rfl
theorem odd_int {t : Trm} {i : Int} : partD t (.int i) = none := rfl
theorem odd_str {t : Trm} {x : Str} : partD t (.str x) = none := rfl
theorem odd_tnone {t : Trm} : partD t (.tuple [.none]) = none := rfl
theorem odd_tstr {t : Trm} {x : Str} : partD t (.tuple [.str x]) = none := rfl
theorem odd_neg {t : Trm} : partD t (.tuple [.int (-1)]) = none := rfl
theorem odd_nine {t : Trm} (o : t.ok = true) : partD t (.tuple [.int 9]) = none := by
  have h1 := innerD_len (inner_data o)
  have h2 := parts_len t
  rw [datas_len] at h1
  show (match (if (0 : Int) ≤ 9 then t.parts[(9 : Int).toNat]? else none) with | some u => partsD u [] | none => none) = none
  rw [if_pos (by decide), List.getElem?_eq_none_iff.mpr (by show t.parts.length ≤ 9; omega)]
theorem odd_last {t u : Trm} {p : List Int} (e : partAt t p = some u) (h : u.parts = []) : partD t (placeD (p ++ [0])) = none := by
  show partsD t ((p ++ [0]).map PyData.int) = none
  rw [partsD_ints, partAt_append e, partAt, if_pos (by decide), h]
  rfl
/-! ### bad terms -/
theorem bad_none : isTermD .none = false := by decide +kernel
theorem bad_int : isTermD (.int 5) = false := by decide +kernel
theorem bad_nil : isTermD (.tuple [.str "nil", .int 0]) = false := by decide +kernel
theorem bad_call : isTermD (.tuple [.str "call", .str "f", .int 5]) = false := by decide +kernel
end Tc
namespace Tc
open PySem PySem.Spec PyProof.Rows L2 LamX
theorem paired_set {α β : Type} {F : α → β → Prop} : ∀ {a : List α} {b : List β} {x : α} {y : β} {i : Nat}, Paired F a b → F x y → Paired F (a.set i x) (b.set i y)
  | _, _, _, _, _, .nil, _ => .nil
  | _, _, _, _, 0, .cons r t, h => .cons h t
  | _, _, _, _, i + 1, .cons r t, h => .cons r (paired_set t h)
end Tc
namespace Tc
open PySem PySem.Spec PyProof.Rows L2 LamX
theorem ixN_at {n : Nat} {i : Int} (h0 : 0 ≤ i) (h1 : i.toNat < n) : ixN n i = some i.toNat := by
  unfold ixN
  rw [if_pos h0, if_pos (by omega)]
theorem data_tail {h : Hd} {ks : List Trm} (o : h.opens = true) (c : h.word ≠ "call") : (Trm.mk h ks).data = .tuple (.str h.word :: datas ks) := by
  cases h with
  | pair => rfl
  | same => rfl
  | call f => exact absurd rfl c
  | nil => cases o
  | nm _ => cases o
  | case _ _ _ => cases o
theorem word_call {h : Hd} (c : h.word = "call") : ∃ f, h = .call f := by
  cases h with
  | call f => exact ⟨f, rfl⟩
  | nm x => exact absurd (show ("name" : Str) = "call" from c) (by decide)
  | case x a b => exact absurd (show ("case" : Str) = "call" from c) (by decide)
  | nil => exact absurd c (by decide)
  | pair => exact absurd c (by decide)
  | same => exact absurd c (by decide)
end Tc
namespace Tc
open PySem PySem.Spec PyProof.Rows L2 LamX
theorem ints_of {K : PySem.W.Frag} {H : Hp} : ∀ {pl : List Int} {vs : List V}, DpAll K H vs (pl.map PyData.int) → vs = pl.map V.int
  | [], _, h => by
    cases h
    rfl
  | i :: pl, _, h => by
    cases h with
    | cons a b =>
      cases a
      rw [ints_of b, List.map_cons]
theorem place_of {K : PySem.W.Frag} {H : Hp} {x : V} {pl : List Int} (h : Dp K H x (placeD pl)) : ∃ p : Addr, x = .ref p ∧ SqT K H p (pl.map V.int) := by
  unfold placeD at h
  cases h with
  | tup q a =>
    rw [ints_of a] at q
    exact ⟨_, rfl, q⟩
theorem Raises.same {K : PySem.W.Frag} {x : Str} {fs : List (Str × V)} {H H1 : Hp} {E : XK} (r : Raises K x fs H E) (s : Same H H1) : Raises K x fs H1 E := fun dd H' s' e => r dd H' (s.trans s') e
def spWithPart (K : PySem.W.Frag) : Sp := fun vs H Q E => ∃ v x y : V, vs = [v, x, y] ∧
  ((∃ b : PyData, Dp K H v b ∧ plain b = true ∧ isTermD b = false ∧ Raises K "BadRow" [("row", v), ("what", .str "term")] H E) ∨
   ∃ (t : Trm) (d : PyData), TmAt K H v t ∧ t.size ≤ 400 ∧ t.deep ≤ 24 ∧ Given K H x d ∧
    ((partD t d = none ∧ Raises K "BadRow" [("row", x), ("what", .str "place")] H E) ∨
     ∃ (pl : List Int) (u : Trm), d = placeD pl ∧ partAt t pl = some u ∧
      ((∃ e : PyData, Dp K H y e ∧ plain e = true ∧ isTermD e = false ∧ Raises K "BadRow" [("row", y), ("what", .str "other")] H E) ∨
       ∃ o : Trm, TmAt K H y o ∧ o.size ≤ 400 ∧ o.deep ≤ 40 ∧ (Tc.putAt t pl o).size ≤ 400 ∧ (Tc.putAt t pl o).deep ≤ 24 ∧ ∀ (z : V) (H' : Hp), Same H H' → TmAt K H' z (Tc.putAt t pl o) → Q z H')))
end Tc
/-! A pen whose list of cells is known. -/
namespace Tc
open PySem PySem.Spec PyProof.Rows L2 LamX
/-- a pen at p, its cells at c -/
def PenC (H : Hp) (p c : Addr) : Prop := ∃ (ns : List Int) (at_ dg ct fo : Int), H p = some (.dK (penL c at_ dg ct fo)) ∧ H c = some (.lst (ns.map V.int)) ∧ ns.length ≤ 63 ∧ 0 ≤ at_ ∧ 0 ≤ dg ∧ 0 ≤ fo ∧ fo < 2147483648
theorem PenC.at {H : Hp} {p c : Addr} (h : PenC H p c) : PenAt H p := ⟨c, h⟩
theorem PenC.of {H : Hp} {p : Addr} (h : PenAt H p) : ∃ c, PenC H p c := h
theorem PenC.same {H H' : Hp} {p c : Addr} (P : PenC H p c) (b : Same H H') : PenC H' p c := by
  obtain ⟨ns, a, d, n, f, e1, e2, r⟩ := P
  exact ⟨ns, a, d, n, f, b p _ e1, b c _ e2, r⟩
theorem PenC.upd {H : Hp} {p c D : Addr} {o : HO} (P : PenC H p c) (h1 : D ≠ p) (h2 : D ≠ c) : PenC (upd H D o) p c := by
  obtain ⟨ns, a, d, n, f, e1, e2, r⟩ := P
  exact ⟨ns, a, d, n, f, by rw [upd_ne h1.symm]; exact e1, by rw [upd_ne h2.symm]; exact e2, r⟩
theorem PenC.new {H : Hp} {p c D : Addr} (P : PenC H p c) (h : H D = none) : D ≠ p ∧ D ≠ c := by
  obtain ⟨ns, a, d, n, f, e1, e2, r⟩ := P
  constructor
  · rintro rfl
    rw [h] at e1
    cases e1
  · rintro rfl
    rw [h] at e2
    cases e2
theorem PenC.lst {H : Hp} {p c l : Addr} {xs : List V} (h : PenC H p c) (e : H l = some (.lst xs)) : l ≠ p := by
  obtain ⟨ns, x, d, n, f, e1, _⟩ := h
  exact ne_of e e1 (by intro z; cases z)
theorem Ten.penC {H H' : Hp} {p c : Addr} (P : PenC H p c) (b : But p H H') : Ten H H' := Ten.pen P.at b
theorem But.upd_new {H H1 : Hp} {p D : Addr} {o : HO} (b : But p H H1) (n : H D = none) : But p H (upd H1 D o) := fun a u h e => by
  rw [upd_ne (ne_of_none e n)]
  exact b a u h e
theorem But.same {p : Addr} {H H1 H2 : Hp} (a : But p H H1) (b : Same H1 H2) : But p H H2 := a.trans (But.of_same b)
def spDrawC : Sp := fun vs H Q _ => ∃ (p c : Addr) (m : Int), vs = [.ref p, .int m] ∧ PenC H p c ∧ 0 < m ∧ m < 1073741824 ∧ ∀ (r : Int) (H' : Hp), 0 ≤ r → r < m → PenC H' p c → But p H H' → Q (.int r) H'
def spPickC (K : PySem.W.Frag) : Sp := fun vs H Q _ => ∃ (p c l : Addr) (xs : List V), vs = [.ref p, .ref l] ∧ l ≠ p ∧ PenC H p c ∧ (SqL K H l xs ∨ SqT K H l xs) ∧ 0 < xs.length ∧ xs.length < 1000000 ∧ ∀ (i : Nat) (x : V) (H' : Hp), xs[i]? = some x → PenC H' p c → But p H H' → Q x H'
end Tc
/-! Terms that a law draws; f() of a def. -/
namespace Tc
open PySem PySem.Spec PyProof.Rows L2 LamX
section
variable {X : Cx} {j k : Nat} {x : Str} {ps : List Str} {sp : Sp} {p pos : Pos}
/-- f(), nothing is raised -/
theorem pe_f0 (c : Callee X.prog X.w X.K X.mg X.base CX0 k x ps sp) (hr : Room j X.A) (hk : k ≤ j := by decide) (hg : Gl X x := by rfl) (hdb : (x == ("__debug__" : Str)) = false := by decide) :
    PE X (.Call (.Name x p) [] [] pos) (tCall sp [] E0 tNil) := by
  obtain ⟨f, fd, F, g, kp, b⟩ := c.ex
  exact pe_call0 F (hr.mono hk) hg g kp b .nil pass0 hdb
end
def spLawNil (K : PySem.W.Frag) : Sp := fun vs H Q _ => vs = [] ∧ ∀ (z : V) (H' : Hp), Same H H' → TmAt K H' z (.mk .nil []) → Q z H'
def spLawC (K : PySem.W.Frag) : Sp := fun vs H Q _ => ∃ (x : Str) (l : Addr) (us : List V) (ts : List Trm), vs = [.str x, .ref l] ∧ nameOk x = true ∧ H l = some (.lst us) ∧ Paired (TmAt K H) us ts ∧ ts.length ≤ 5 ∧ ∀ (z : V) (H' : Hp), Same H H' → TmAt K H' z (.mk (.call x) ts) → Q z H'
theorem paired_get2 {α β : Type} {F : α → β → Prop} : ∀ {a : List α} {b : List β} {i : Nat} {y : β}, Paired F a b → b[i]? = some y → ∃ x, a[i]? = some x ∧ F x y
  | _, _, _, _, .nil, e => by simp at e
  | _, _, 0, _, .cons r t, e => by
    have e' := Option.some.inj e
    exact ⟨_, rfl, e' ▸ r⟩
  | _, _, i + 1, _, .cons r t, e => by
    rw [List.getElem?_cons_succ] at e
    obtain ⟨x, e1, e2⟩ := paired_get2 t e
    exact ⟨x, by rw [List.getElem?_cons_succ]; exact e1, e2⟩
theorem tms_ok {K : PySem.W.Frag} {H : Hp} {us : List V} {ts : List Trm} (h : Paired (TmAt K H) us ts) : oks ts = true := oks_of fun t ht => by
  obtain ⟨i, e⟩ := List.mem_iff_getElem?.mp ht
  obtain ⟨u, _, hu⟩ := paired_get2 h e
  exact hu.2
/-! ### drawn terms -/
def callD (c : Str × Nat) : PyData := .tuple [.str c.1, .int c.2]
def CallsAt (K : PySem.W.Frag) (H : Hp) (l : Addr) (cs : List (Str × Nat)) : Prop := ∃ xs, H l = some (.lst xs) ∧ DpAll K H xs (cs.map callD)
def GoodCalls (cs : List (Str × Nat)) : Prop := (∀ c ∈ cs, nameOk c.1 = true ∧ c.2 ≤ 3) ∧ cs.length ≤ 10 ∧ SeqAt.shaped (.list (cs.map callD)) = true ∧ PyData.eqv (.list (cs.map callD)) (.list []) = cs.isEmpty
def drawnSize : Nat → Nat
  | 0 => 1
  | n + 1 => 1 + 4 * drawnSize n
theorem drawn_pos : ∀ n, 1 ≤ drawnSize n
  | 0 => Nat.le_refl _
  | n + 1 => by rw [drawnSize]; omega
def spDrawn (K : PySem.W.Frag) : Nat → Sp
  | 0 => fun _ _ _ _ => False
  | n + 1 => fun vs H Q _ => ∃ (p c ln lc : Addr) (ns : List Str) (cs : List (Str × Nat)) (d : Nat), vs = [.ref p, .ref ln, .ref lc, .int (d : Int)] ∧ d ≤ n ∧ PenC H p c ∧ H ln = some (.lst (ns.map V.str)) ∧ (∀ x ∈ ns, nameOk x = true) ∧ ns.length ≤ 10 ∧
    CallsAt K H lc cs ∧ GoodCalls cs ∧ ∀ (z : V) (t : Trm) (H' : Hp), PenC H' p c → But p H H' → TmAt K H' z t → t.size ≤ drawnSize d → t.deep ≤ d + 1 → Q z H'
theorem good_nil : GoodCalls [] := ⟨fun _ h => (nomatch h), by decide, by decide +kernel, by decide +kernel⟩
theorem calls_plain : ∀ (cs : List (Str × Nat)), (∀ c ∈ cs, nameOk c.1 = true ∧ c.2 ≤ 3) → plainAll (cs.map callD) = true
  | [], _ => rfl
  | c :: cs, h => by
    rw [List.map_cons, plainAll, calls_plain cs fun d hd => h d (List.mem_cons_of_mem _ hd), Bool.and_true]
    have := nameOk_len (h c List.mem_cons_self).1
    simp [callD, plain, plainAll]
    omega
theorem CallsAt.but {K : PySem.W.Frag} {H H' : Hp} {p l : Addr} {cs : List (Str × Nat)} (h : CallsAt K H l cs) {c : Addr} (hp : PenC H p c) (b : But p H H') (g : GoodCalls cs) : CallsAt K H' l cs := by
  obtain ⟨xs, e, a⟩ := h
  exact ⟨xs, b _ _ (hp.lst e) e, ten_dps (Ten.penC hp b) _ (calls_plain cs g.1) a⟩
theorem CallsAt.same {K : PySem.W.Frag} {H H' : Hp} {l : Addr} {cs : List (Str × Nat)} (h : CallsAt K H l cs) (b : Same H H') (g : GoodCalls cs) : CallsAt K H' l cs := by
  obtain ⟨xs, e, a⟩ := h
  exact ⟨xs, b _ _ e, ten_dps (Ten.of_same b) _ (calls_plain cs g.1) a⟩
/-- i terms drawn into the list at D -/
def Drawns (K : PySem.W.Frag) (p c : Addr) (H1 : Hp) (D : Addr) (d i : Nat) (H' : Hp) : Prop := PenC H' p c ∧ But p H1 H' ∧ ∃ us ts, H' D = some (.lst us) ∧ Paired (TmAt K H') us ts ∧ ts.length = i ∧ ∀ t ∈ ts, t.size ≤ drawnSize d ∧ t.deep ≤ d + 1
theorem Drawns.start {K : PySem.W.Frag} {p c D : Addr} {H1 : Hp} {d : Nat} (h : PenC H1 p c) (n : H1 D = none) : Drawns K p c H1 D d 0 (upd H1 D (.lst [])) :=
  ⟨h.same (Same.new n), But.of_same (Same.new n), [], [], upd_same, .nil, rfl, fun _ h => (nomatch h)⟩
/-- one more is drawn -/
theorem Drawns.step {K : PySem.W.Frag} {p c D : Addr} {H1 H2 H3 : Hp} {d i : Nat} {z : V} {t : Trm} (h : Drawns K p c H1 D d i H2) (h0 : PenC H1 p c) (n : H1 D = none) (hp : PenC H3 p c) (b : But p H2 H3) (hz : TmAt K H3 z t) (h1 : t.size ≤ drawnSize d) (h2 : t.deep ≤ d + 1) :
    ∃ acc, H3 D = some (.lst acc) ∧ acc.length = i ∧ Drawns K p c H1 D d (i + 1) (upd H3 D (.lst (acc ++ [z]))) := by
  obtain ⟨g1, g2, us, ts, g3, g4, g5, g6⟩ := h
  obtain ⟨n1, n2⟩ := h0.new n
  have e3 := b _ _ n1 g3
  have t3 : Ten H2 H3 := Ten.penC g1 b
  have t4 : Ten H3 (upd H3 D (.lst (us ++ [z]))) := Ten.set e3
  refine ⟨us, e3, by rw [g4.length, g5], hp.upd n1 n2, (g2.trans b).upd_new n, us ++ [z], ts ++ [t], upd_same, ?_, ?_, ?_⟩
  · exact paired_append (tms_ten (t3.trans t4) g4) (.cons (TmAt.ten t4 hz) .nil)
  · rw [List.length_append, g5]
    rfl
  · intro u hu
    rcases List.mem_append.mp hu with hu | hu
    · exact g6 u hu
    · rcases List.mem_singleton.mp hu with rfl
      exact ⟨h1, h2⟩
theorem sizes_le {ts : List Trm} {m : Nat} (h : ∀ t ∈ ts, t.size ≤ m) : sizes ts ≤ ts.length * m := by
  induction ts with
  | nil => rw [sizes]; omega
  | cons t ts ih =>
    have h1 := h t List.mem_cons_self
    have h2 := ih fun u hu => h u (List.mem_cons_of_mem _ hu)
    rw [sizes, List.length_cons, Nat.succ_mul]
    omega
theorem deeps_le {ts : List Trm} {m : Nat} (h : ∀ t ∈ ts, t.deep ≤ m) : deeps ts ≤ m := by
  induction ts with
  | nil => rw [deeps]; omega
  | cons t ts ih =>
    have h1 := h t List.mem_cons_self
    have h2 := ih fun u hu => h u (List.mem_cons_of_mem _ hu)
    rw [deeps]
    omega
/-- of at most four such terms -/
theorem mk_small {h : Hd} {ts : List Trm} {d : Nat} (hl : ts.length ≤ 4) (hs : ∀ t ∈ ts, t.size ≤ drawnSize d ∧ t.deep ≤ d + 1) : (Trm.mk h ts).size ≤ drawnSize (d + 1) ∧ (Trm.mk h ts).deep ≤ d + 1 + 1 := by
  have h1 := sizes_le fun t ht => (hs t ht).1
  have h2 := deeps_le fun t ht => (hs t ht).2
  have h3 : ts.length * drawnSize d ≤ 4 * drawnSize d := Nat.mul_le_mul_right _ hl
  rw [Trm.size, Trm.deep, drawnSize]
  constructor <;> omega
section
variable {σ : L2.St} {H : Hp} {j : Nat} {i m : Int} {QT : Bool → Hp → Prop}
theorem ts_eqI (h : σ[j]? = some (some (.int i))) (k1 : i = m → QT true H) (k2 : i ≠ m → QT false H) : tTest (tOp rEq (tVar j) (tC (.int m))) σ H QT := by
  refine ⟨_, h, rfl, _, rfl, ?_⟩
  by_cases hz : i = m
  · rw [decide_eq_true (congrArg V.int hz)]
    exact k1 hz
  · rw [decide_eq_false fun e => hz (V.int.inj e)]
    exact k2 hz
theorem ts_ltI (h : σ[j]? = some (some (.int i))) (k1 : i < m → QT true H) (k2 : ¬ i < m → QT false H) : tTest (tOp (rI0 fun i j => V.bl (decide (i < j))) (tVar j) (tC (.int m))) σ H QT := by
  refine ⟨_, h, _, _, rfl, rfl, _, rfl, ?_⟩
  by_cases hz : i < m
  · rw [decide_eq_true hz]
    exact k1 hz
  · rw [decide_eq_false hz]
    exact k2 hz
theorem ts_orEL {l : Nat} {w m2 : Int} (h : σ[j]? = some (some (.int i))) (h2 : σ[l]? = some (some (.int w))) (k1 : (i = m ∨ w < m2) → QT true H) (k2 : i ≠ m → ¬ w < m2 → QT false H) :
    tOr (tTest (tOp rEq (tVar j) (tC (.int m)))) (tTest (tOp (rI0 fun i j => V.bl (decide (i < j))) (tVar l) (tC (.int m2)))) σ H QT :=
  ts_eqI h (fun z => iteT (k1 (.inl z))) fun z => iteF (ts_ltI h2 (fun y => k1 (.inr y)) fun y => k2 z y)
theorem ts_orLE {K : PySem.W.Frag} {l : Nat} {w m2 : Int} {a : Addr} {cs : List (Str × Nat)} (h2 : σ[j]? = some (some (.int w))) (h : σ[l]? = some (some (.ref a))) (hc : CallsAt K H a cs) (g : GoodCalls cs)
    (k1 : ∀ H', Same H H' → QT true H') (k2 : ∀ H', Same H H' → ¬ w < m2 → cs ≠ [] → QT false H') :
    tOr (tTest (tOp (rI0 fun i j => V.bl (decide (i < j))) (tVar j) (tC (.int m2)))) (tTest (tOp (rEqD K) (tVar l) (tLst tNil))) σ H QT := by
  refine ts_ltI h2 (fun z => iteT (k1 H (Same.refl H))) fun z => iteF ⟨_, h, Nat.zero_le _, fun q nq => ?_⟩
  obtain ⟨xs, e, _⟩ := hc.same (Same.new (o := .lst []) nq) g
  rename_i d
  refine ⟨_, .list [], .lst (SqL.of e) d, .lst (SqL.of upd_same) .nil, g.2.2.1, by decide +kernel, _, rfl, ?_⟩
  rw [g.2.2.2]
  cases cs with
  | nil => exact k1 _ (Same.new nq)
  | cons c cs => exact k2 _ (Same.new nq) z (by simp)
end
/-- a term without parts -/
def Leaf (K : PySem.W.Frag) (H : Hp) (x : V) : Prop := ∃ t, TmAt K H x t ∧ t.size = 1 ∧ t.deep = 1
theorem Leaf.ten {K : PySem.W.Frag} {H H' : Hp} {x : V} (h : Leaf K H x) (e : Ten H H') : Leaf K H' x := by
  obtain ⟨t, h, r⟩ := h
  exact ⟨t, TmAt.ten e h, r⟩
theorem call_of {K : PySem.W.Frag} {H : Hp} {x : V} {c : Str × Nat} (h : Dp K H x (callD c)) : ∃ p : Addr, x = .ref p ∧ SqT K H p [.str c.1, .int c.2] := by
  unfold callD at h
  cases h with
  | tup q a =>
    cases a with
    | cons a b =>
      cases a
      cases b with
      | cons a b =>
        cases a
        cases b
        exact ⟨_, rfl, q⟩
end Tc
/-! The law's own places, parts, terms with another part. -/
namespace Tc
open PySem PySem.Spec PyProof.Rows L2 LamX
theorem lay_ints : ∀ ns : List Int, PyData.canLayAll0 (ns.map PyData.int) = true
  | [] => rfl
  | _ :: r => by simp [PyData.canLayAll0, PyData.canLay0, lay_ints r]
theorem depth_ints : ∀ ns : List Int, PyData.depthAll (ns.map PyData.int) = 0
  | [] => rfl
  | _ :: r => by simp [PyData.depthAll, PyData.depth, depth_ints r]
theorem shaped_place (ns : List Int) : SeqAt.shaped (placeD ns) = true := by
  simp [placeD, SeqAt.shaped, PyData.canLay0, PyData.depth, lay_ints, depth_ints]
theorem eqv_place (ns : List Int) : PyData.eqv (placeD ns) (.tuple []) = ns.isEmpty := by
  cases ns with
  | nil => decide +kernel
  | cons n ns => simp [placeD, PyData.eqv, PyData.eqvAll]
theorem placesL_snoc : ∀ {a : List Trm} {u : Trm} {pl : List Int} {i : Int}, placesL (a ++ [u]) pl i = placesL a pl i ++ u.places (pl ++ [i + (a.length : Int)])
  | [], u, pl, i => by
    rw [List.nil_append, placesL, placesL, placesL, List.append_nil, List.nil_append]
    show u.places (pl ++ [i]) = u.places (pl ++ [i + (0 : Int)])
    rw [Int.add_zero]
  | t :: a, u, pl, i => by
    rw [List.cons_append, placesL, placesL, placesL_snoc, List.append_assoc]
    have e : i + 1 + (a.length : Int) = i + ((t :: a).length : Int) := by rw [List.length_cons]; omega
    rw [e]
theorem sizes_take : ∀ {ts : List Trm} {i : Nat}, sizes (ts.take i) ≤ sizes ts
  | [], i => by rw [List.take_nil]; exact Nat.le_refl _
  | t :: ts, 0 => by rw [List.take_zero, sizes]; exact Nat.zero_le _
  | t :: ts, i + 1 => by
    have := sizes_take (ts := ts) (i := i)
    rw [List.take_succ_cons, sizes, sizes]
    omega
theorem sizes_parts (t : Trm) : sizes t.parts ≤ sizes t.kids := by
  unfold Trm.parts
  split
  · exact Nat.le_refl _
  · rw [sizes]; exact Nat.zero_le _
def placesD (t : Trm) (pl : List Int) : List PyData := (t.places pl).map fun e => placeD e.1
def spLawPlaces (K : PySem.W.Frag) : Nat → Sp
  | 0 => fun _ _ _ _ => False
  | n + 1 => fun vs H Q _ => ∃ (v : V) (p : Addr) (t : Trm) (pl : List Int), vs = [v, .ref p] ∧ TmAt K H v t ∧ SqT K H p (pl.map V.int) ∧ t.deep ≤ n ∧ t.size ≤ 900 ∧ pl.length + t.deep ≤ 900 ∧
    ∀ (f : Addr) (fs : List V) (H' : Hp), Same H H' → H' f = some (.lst fs) → DpAll K H' fs (placesD t pl) → Q (.ref f) H'
def spLawPart (K : PySem.W.Frag) : Sp := fun vs H Q _ => ∃ (v : V) (p : Addr) (t u : Trm) (pl : List Int), vs = [v, .ref p] ∧ TmAt K H v t ∧ SqT K H p (pl.map V.int) ∧ partAt t pl = some u ∧
    ∀ (y : V) (H' : Hp), Same H H' → TmAt K H' y u → Q y H'
/-- the walk of a place -/
def spLawOther (K : PySem.W.Frag) : Nat → Sp
  | 0 => fun _ _ _ _ => False
  | n + 1 => fun vs H Q _ => ∃ (v x y : V) (t o : Trm) (pl : List Int), vs = [v, x, y] ∧ TmAt K H v t ∧ (∃ p : Addr, x = .ref p ∧ SqT K H p (pl.map V.int)) ∧ TmAt K H y o ∧ pl.length ≤ n ∧ (partAt t pl).isSome = true ∧
    ∀ (z : V) (H' : Hp), Same H H' → TmAt K H' z (Tc.putAt t pl o) → Q z H'
theorem cutInit1 {y : V} {xs : List V} : cutV (y :: xs) none (some 1) = [y] := by
  unfold cutV
  have h1 : HT.sIx (y :: xs).length (y :: xs).length (some 1) = 1 := by
    rw [show (some 1 : Option Int) = some ((1 : Nat) : Int) from rfl, HT.sIx_nat, List.length_cons]
    omega
  rw [h1, HT.sIx_none, List.drop_zero]
  rfl
end Tc
namespace Tc
open PySem PySem.Spec PyProof.Rows L2 LamX
theorem rest_tail {h : Hd} {ds : List PyData} (o : h.opens = true) (c : h.word ≠ "call") : h.rest ds = ds := by
  cases h with
  | pair => rfl
  | same => rfl
  | call f => exact absurd rfl c
  | nil => cases o
  | nm _ => cases o
  | case _ _ _ => cases o
theorem rd_first {K : PySem.W.Frag} {H : Hp} {σ : L2.St} {p : Addr} {xs : List V} {j : Nat} {Q : VK} {y : V} (h : σ[j]? = some (some (.ref p))) (q : SqT K H p (y :: xs)) (hx : xs ≠ []) (k : ∀ r, H r = none → Q (.ref r) (upd H r (.tup [y]))) : tSl (rSlA K) (tVar j) tNoPart (tPart (tC (.int 1))) σ H Q := by
  have h1 : HT.sIx (y :: xs).length (y :: xs).length (some 1) = 1 := by
    rw [show (some 1 : Option Int) = some ((1 : Nat) : Int) from rfl, HT.sIx_nat, List.length_cons]
    omega
  refine ⟨_, h, 1, rfl, p, y :: xs, rfl, q, fun w => ?_, fun _ r n => by rw [cutInit1]; exact k r n⟩
  rw [h1, List.length_cons] at w
  cases xs with
  | nil => exact absurd rfl hx
  | cons x xs =>
    have := w.2
    rw [List.length_cons] at this
    omega
end Tc
namespace Tc
open PySem PySem.Spec PyProof.Rows L2 LamX
/-- one more item behind a tuple, be that empty or not -/
theorem catA_one {K : PySem.W.Frag} {H : Hp} {a b : Addr} {xs : List V} {y : V} {Q : VK} (q1 : SqT K H a xs) (q2 : SqT K H b [y]) (hl : xs.length + 1 ≤ sizeLine) (k : ∀ (r : Addr) (H' : Hp), Same H H' → SqT K H' r (xs ++ [y]) → Q (.ref r) H') : rCatA K (.ref a) (.ref b) H Q := by
  refine ⟨a, b, xs, [y], rfl, rfl, q1, q2, hl, fun z => ?_, fun _ z => (nomatch z), fun _ _ r nr => k r _ (Same.new nr) (SqT.of upd_same)⟩
  subst z
  exact k b H (Same.refl H) q2
end Tc
/-! A law's rows of (lambda, what is due): the list that they stand in. -/
namespace Tc
open PySem PySem.Spec PyProof.Rows L2 LamX
theorem PenC.ext {H H' : Hp} {p c : Addr} (P : PenC H p c) (b : ExtN H H') : PenC H' p c := by
  obtain ⟨ns, a, d, n, f, e1, e2, r⟩ := P
  exact ⟨ns, a, d, n, f, b p _ e1 (fun _ z => by cases z), b c _ e2 (fun _ z => by cases z), r⟩
theorem Tabs.penC {T : List (Addr × Str)} {H H' : Hp} {p c : Addr} (t : Tabs T H) (P : PenC H p c) (b : But p H H') : Tabs T H' := fun q hq => by
  obtain ⟨ns, a, d, n, f, e1, _⟩ := P
  obtain ⟨ps, h1, h2, h3⟩ := t q hq
  refine ⟨ps, b _ _ (ne_of e1 h1 (by intro z; cases z)).symm h1, h2, fun pos cv hc => ?_⟩
  obtain ⟨k, e2, e3⟩ := h3 pos cv hc
  exact ⟨k, e2, b _ _ (ne_of e1 e3 (by intro z; unfold CodeO at z; cases z)).symm e3⟩
theorem TmAt.grow {K : PySem.W.Frag} {H H' : Hp} {x : V} {t : Trm} (g : ExtN H H') (h : TmAt K H x t) : TmAt K H' x t := ⟨grow_dp g _ h.1, h.2⟩
/-- all but l and the tables stand -/
def Keep (l : Addr) (H H' : Hp) : Prop := ∀ b o, b ≠ l → H b = some o → (∀ ps, o ≠ .tbl ps) → H' b = some o
theorem Keep.refl (l : Addr) (H : Hp) : Keep l H H := fun _ _ _ h _ => h
theorem Keep.trans {l : Addr} {H H1 H2 : Hp} (a : Keep l H H1) (b : Keep l H1 H2) : Keep l H H2 := fun c o n h z => b c o n (a c o n h z) z
theorem Keep.ext {l : Addr} {H H' : Hp} (e : ExtN H H') : Keep l H H' := fun b o _ h z => e b o h z
theorem Keep.same {l : Addr} {H H' : Hp} (e : Same H H') : Keep l H H' := fun b o _ h _ => e b o h
theorem Keep.set {l : Addr} {H : Hp} {o : HO} : Keep l H (upd H l o) := fun b u n h _ => by
  rw [upd_ne n]
  exact h
theorem Keep.ten {l : Addr} {H H' : Hp} {xs : List V} (k : Keep l H H') (e : H l = some (.lst xs)) : Ten H H' := fun a us r => by
  rcases r with r | ⟨o, r⟩
  · exact .inl (k _ _ (ne_of r e (by intro z; cases z)) r (fun _ z => by cases z))
  · exact .inr ⟨o, k _ _ (ne_of r e (by intro z; cases z)) r (fun _ z => by cases z)⟩
theorem ExtN.ten {H H' : Hp} (k : ExtN H H') : Ten H H' := fun a us r => by
  rcases r with r | ⟨o, r⟩
  · exact .inl (k _ _ r (fun _ z => by cases z))
  · exact .inr ⟨o, k _ _ r (fun _ z => by cases z)⟩
section
variable {X : Cx} {K : PySem.W.Frag} {H H' : Hp} {l f : Addr} {xs : List V} {lm : LamT}
theorem MadeLam.ext (m : MadeLam X lm H f) (e : ExtN H H') : MadeLam X lm H' f := by
  obtain ⟨c, h1, h2⟩ := m
  exact ⟨c, e _ _ h1 lamO_ne, e _ _ h2 codeO_ne⟩
theorem MadeLam.keep (m : MadeLam X lm H f) (k : Keep l H H') (e : H l = some (.lst xs)) : MadeLam X lm H' f := by
  obtain ⟨c, h1, h2⟩ := m
  exact ⟨c, k _ _ (ne_of h1 e (by intro z; unfold LamO at z; cases z)) h1 lamO_ne, k _ _ (ne_of h2 e (by intro z; unfold CodeO at z; cases z)) h2 codeO_ne⟩
/-- a row: the lambda, what is due of it -/
structure RowT where
  lam : LamT
  what : Str
  v : V
def RowAt (X : Cx) (K : PySem.W.Frag) (H : Hp) (x : V) (r : RowT) : Prop := ∃ tp f dt : Addr, x = .ref tp ∧ SqT K H tp [.ref f, .ref dt] ∧ SqT K H dt [.str "row", .str r.what, r.v] ∧ MadeLam X r.lam H f
theorem RowAt.keep {x : V} {r : RowT} (h : RowAt X K H x r) (k : Keep l H H') (e : H l = some (.lst xs)) : RowAt X K H' x r := by
  obtain ⟨tp, f, dt, rfl, q1, q2, m⟩ := h
  have t := k.ten e
  exact ⟨tp, f, dt, rfl, t.tup q1, t.tup q2, m.keep k e⟩
/-- the rows so far, in the list at l -/
structure Desk (X : Cx) (K : PySem.W.Frag) (T : List (Addr × Str)) (p c l : Addr) (H : Hp) (xs : List V) (rs : List RowT) : Prop where
  tabs : Tabs T H
  lst : H l = some (.lst xs)
  rows : Paired (RowAt X K H) xs rs
  pen : PenC H p c
  np : l ≠ p
  nc : l ≠ c
theorem Desk.first {T : List (Addr × Str)} {p c : Addr} {H1 : Hp} {dt tp : Addr} {r : RowT} (hp : PenC H1 p c) (ht : Tabs T H1) (m : MadeLam X r.lam H1 f) (n1 : H1 dt = none) (n2 : upd H1 dt (.tup [.str "row", .str r.what, r.v]) tp = none)
    (n3 : upd (upd H1 dt (.tup [.str "row", .str r.what, r.v])) tp (.tup [.ref f, .ref dt]) l = none) :
    Desk X K T p c l (upd (upd (upd H1 dt (.tup [.str "row", .str r.what, r.v])) tp (.tup [.ref f, .ref dt])) l (.lst [.ref tp])) [.ref tp] [r] := by
  have s1 : Same H1 (upd H1 dt (.tup [.str "row", .str r.what, r.v])) := Same.new n1
  have s2 : Same (upd H1 dt (.tup [.str "row", .str r.what, r.v])) (upd (upd H1 dt (.tup [.str "row", .str r.what, r.v])) tp (.tup [.ref f, .ref dt])) := Same.new n2
  have s3 := Same.new (o := .lst [.ref tp]) n3
  have s := (s1.trans s2).trans s3
  obtain ⟨g1, g2⟩ := (hp.same (s1.trans s2)).new n3
  refine ⟨ht.ext s, upd_same, .cons ⟨tp, f, dt, rfl, SqT.of (s3 _ _ upd_same), SqT.of (s3 _ _ (s2 _ _ upd_same)), m.ext (.of s)⟩ .nil, hp.same s, g1, g2⟩
theorem Desk.more {T : List (Addr × Str)} {p c : Addr} {H1 : Hp} {dt tp : Addr} {r : RowT} {rs : List RowT} (D : Desk X K T p c l H xs rs) (g : ExtN H H1) (ht : Tabs T H1) (m : MadeLam X r.lam H1 f) (n1 : H1 dt = none) (n2 : upd H1 dt (.tup [.str "row", .str r.what, r.v]) tp = none) :
    upd (upd H1 dt (.tup [.str "row", .str r.what, r.v])) tp (.tup [.ref f, .ref dt]) l = some (.lst xs) ∧
    Desk X K T p c l (upd (upd (upd H1 dt (.tup [.str "row", .str r.what, r.v])) tp (.tup [.ref f, .ref dt])) l (.lst (xs ++ [.ref tp]))) (xs ++ [.ref tp]) (rs ++ [r]) ∧
    Keep l H (upd (upd (upd H1 dt (.tup [.str "row", .str r.what, r.v])) tp (.tup [.ref f, .ref dt])) l (.lst (xs ++ [.ref tp]))) := by
  have s1 : Same H1 (upd H1 dt (.tup [.str "row", .str r.what, r.v])) := Same.new n1
  have s2 : Same (upd H1 dt (.tup [.str "row", .str r.what, r.v])) (upd (upd H1 dt (.tup [.str "row", .str r.what, r.v])) tp (.tup [.ref f, .ref dt])) := Same.new n2
  have e1 := g _ _ D.lst (fun _ z => by cases z)
  have e3 := s2 _ _ (s1 _ _ e1)
  have k3 : Keep l _ (upd (upd (upd H1 dt (.tup [.str "row", .str r.what, r.v])) tp (.tup [.ref f, .ref dt])) l (.lst (xs ++ [.ref tp]))) := Keep.set
  have k1 := (Keep.same (l := l) (s1.trans s2)).trans k3
  have k := (Keep.ext (l := l) g).trans k1
  have b : But l _ (upd (upd (upd H1 dt (.tup [.str "row", .str r.what, r.v])) tp (.tup [.ref f, .ref dt])) l (.lst (xs ++ [.ref tp]))) := But.set
  have ht3 := ht.ext (s1.trans s2)
  refine ⟨e3, ⟨fun q hq => ?_, upd_same, paired_append (L2.Paired.mapP D.rows fun _ _ h => h.keep k D.lst) (.cons ⟨tp, f, dt, rfl, (k3.ten e3).tup (SqT.of upd_same), (k3.ten e3).tup (SqT.of (s2 _ _ upd_same)), m.keep k1 e1⟩ .nil), ((D.pen.ext g).same (s1.trans s2)).upd D.np D.nc, D.np, D.nc⟩, k⟩
  obtain ⟨ps, h1, h2, h3⟩ := ht3 q hq
  refine ⟨ps, b _ _ (ne_of h1 e3 (by intro z; cases z)) h1, h2, fun pos cv hc => ?_⟩
  obtain ⟨kk, e4, e5⟩ := h3 pos cv hc
  exact ⟨kk, e4, b _ _ (ne_of e5 e3 (by intro z; unfold CodeO at z; cases z)) e5⟩
end
/-- the law's rule, its code object told -/
theorem funGT {P : Program} {w : World} {K : PySem.W.Frag} {mg : Str → Option Value} {base : Heap} {CX : CXT} {Γ : Around → Prop} {calm : Bool} {x qual : Str} {st : Stmt} {p : Str × Option Str} {fd : FuncData} {N ps : List Str} {k : Nat} {sp : Pins → Sp} (F : Fun K x qual st (He.fAd K p) fd) (S : FnScope N ps (defScope st))
    (hΓ : ∀ A, Γ A → calm = true → A.handled = none) (many : ∀ pn vs H Q E, sp pn vs H Q E → vs.length = ps.length)
    (hbody : ∀ (pn : Pins) (A : Around) (outer : List Env) (s : Shared) (H : Hp) (vs : List V) (Q : VK) (E : XK), Γ A → L2H.RoomH k (A.deeper (envOfC qual (defScope st) s.heap.objs.size (He.fAd K p) (.ref (He.codeOf K p)))) → sp pn vs H Q E →
      ∃ t, PSs (cxG calm pn CX P w K mg base N qual (defScope st) (He.fAd K p) (.ref (He.codeOf K p)) A outer s H E) (defBody st) t ∧ t { nx := fun _ H' => Q .non H', rt := Q } (start N vs) H) : FnG P w K mg base CX Γ (k + 1) (He.fAd K p) fd ps sp := by
  obtain ⟨oc, od, kV, doc, pm, an, cdv, ct, osl, rfl, lk, hcd⟩ := F.ex
  obtain ⟨c, rfl⟩ := He.codeIn_ref hcd
  have e : He.codeOf K p = c := He.codeOf_eq lk rfl
  subst e
  exact fn_ofG lk hcd S hΓ many fun pn A outer s H vs Q E g hr h => hbody pn A outer s H vs Q E g hr h
end Tc
/-! Plain data of terms and places: how deep, how it shows. -/
namespace Tc
open PySem PySem.Spec PyProof.Rows L2 LamX
theorem depth_lay {h : Hd} {ds : List PyData} {m : Nat} (hm : PyData.depthAll ds ≤ m) : (lay h ds).depth ≤ m + 2 := by
  have g0 : ∀ {i : Nat}, (ds.getD i .none).depth ≤ m := by
    intro i
    rw [List.getD_eq_getElem?_getD]
    cases e : ds[i]? with
    | none => exact Nat.zero_le _
    | some d => exact depth_get hm e
  cases h with
  | nil => simp [lay, PyData.depth, PyData.depthAll]
  | nm x => simp [lay, PyData.depth, PyData.depthAll]
  | pair => simp [lay, PyData.depth, PyData.depthAll]; omega
  | same => simp [lay, PyData.depth, PyData.depthAll]; omega
  | call f => simp [lay, PyData.depth, PyData.depthAll]; omega
  | case x a b =>
    have h1 := g0 (i := 0)
    have h2 := g0 (i := 1)
    simp only [lay, PyData.depth, PyData.depthAll]
    omega
mutual
theorem data_depth : ∀ t : Trm, t.data.depth ≤ 2 * t.deep
  | .mk h ks => by
    have := datas_depth ks
    have := depth_lay (h := h) this
    rw [Trm.data, Trm.deep]
    omega
theorem datas_depth : ∀ ts : List Trm, PyData.depthAll (datas ts) ≤ 2 * deeps ts
  | [] => by rw [datas]; exact Nat.zero_le _
  | t :: ts => by
    have h1 := data_depth t
    have h2 := datas_depth ts
    rw [datas, PyData.depthAll, deeps]
    omega
end
theorem depth_places : ∀ (es : List (List Int × Trm)), PyData.depthAll (es.map fun e => placeD e.1) ≤ 1
  | [] => Nat.zero_le _
  | e :: es => by
    have h := depth_places es
    rw [List.map_cons, PyData.depthAll]
    have h2 : (placeD e.1).depth = 1 := by simp [placeD, PyData.depth, depth_ints]
    omega
theorem plain_places : ∀ (es : List (List Int × Trm)), (∀ e ∈ es, e.1.length ≤ 1000) → plainAll (es.map fun e => placeD e.1) = true
  | [], _ => rfl
  | e :: es, h => by
    rw [List.map_cons, plainAll, plain_places es fun u hu => h u (List.mem_cons_of_mem _ hu), place_plain (Nat.le_trans (h e List.mem_cons_self) (by decide))]
    rfl
/-- all places of a term, as one tuple -/
theorem tup_places (t : Trm) (h1 : t.size ≤ 1000) (h2 : t.deep ≤ 1000) : plain (.tuple (placesD t [])) = true ∧ PyData.depth (.tuple (placesD t [])) ≤ 2 := by
  constructor
  · have hl := places_len t []
    show plain (.tuple ((t.places []).map fun e => placeD e.1)) = true
    rw [plain, plain_places _ fun e he => by
      have := places_deep t [] e he
      have e0 : ([] : List Int).length = 0 := rfl
      omega, List.length_map, Bool.and_true]
    exact decide_eq_true (by omega)
  · have := depth_places (t.places [])
    show PyData.depthAll ((t.places []).map fun e => placeD e.1) + 1 ≤ 2
    omega
/-! ### small places show -/
theorem log_small {n : Nat} (h : n < 1000000) : n.log2 ≤ 20 := by
  by_cases z : n = 0
  · rw [z]; decide
  · exact Nat.le_of_lt ((Nat.log2_lt z).mpr (Nat.lt_of_lt_of_le h (by decide)))
theorem int_shows {r : Int} (h0 : 0 ≤ r) (h : r < 1000000) : PyData.showable (.int r) = true ∧ PyData.leavesShort 8 (.int r) = true ∧ PyData.weight (.int r) ≤ 21 := by
  have hn : r.natAbs < 1000000 := by omega
  have hl := log_small hn
  refine ⟨?_, ?_, ?_⟩
  · simp only [PyData.showable, decide_eq_true_eq]; omega
  · have e := int_text_length_le10 (a := r) (k := 7) (by decide) (Nat.lt_of_lt_of_le hn (by decide))
    simp only [PyData.leavesShort, decide_eq_true_eq]
    show (Str.ofString (toString r)).length ≤ 8
    rw [PySem.ofString_length]; exact e
  · simp only [PyData.weight]
    split <;> omega
theorem ints_show : ∀ (ns : List Int), (∀ n ∈ ns, 0 ≤ n ∧ n < 1000000) → PyData.showableAll (ns.map PyData.int) = true ∧ PyData.leavesShortAll 8 (ns.map PyData.int) = true ∧ PyData.weightAll (ns.map PyData.int) ≤ 22 * ns.length
  | [], _ => ⟨rfl, rfl, Nat.zero_le _⟩
  | n :: ns, h => by
    obtain ⟨h1, h2⟩ := h n List.mem_cons_self
    obtain ⟨a1, a2, a3⟩ := int_shows h1 h2
    obtain ⟨b1, b2, b3⟩ := ints_show ns fun m hm => h m (List.mem_cons_of_mem _ hm)
    rw [List.map_cons, PyData.showableAll, PyData.leavesShortAll, PyData.weightAll, a1, a2, b1, b2, List.length_cons]
    exact ⟨rfl, rfl, by omega⟩
theorem place_shows {ns : List Int} (h : ∀ n ∈ ns, 0 ≤ n ∧ n < 1000000) (hl : ns.length ≤ 40) : (placeD ns).showable = true ∧ (placeD ns).shown.length ≤ sizeLine ∧ (placeD ns).depth ≤ 64 := by
  obtain ⟨h1, h2, h3⟩ := ints_show ns h
  refine ⟨h1, PyData.shown_fits (B := 8) (Nat.le_refl 8) (by decide) (d := placeD ns) h2 (Nat.le_trans (show PyData.weightAll (ns.map PyData.int) ≤ 1000 by omega) (by decide)), ?_⟩
  show PyData.depthAll (ns.map PyData.int) + 1 ≤ 64
  rw [depth_ints]
  decide
theorem partAt_ints : ∀ {pl : List Int} {t u : Trm}, t.ok = true → partAt t pl = some u → ∀ n ∈ pl, 0 ≤ n ∧ n < 1000000
  | [], _, _, _, _, _, h => nomatch h
  | i :: is, t, u, o, e, n, hn => by
    obtain ⟨h0, w, ew, e2⟩ := partAt_cons e
    rcases List.mem_cons.mp hn with rfl | hn
    · have h1 := innerD_len (inner_data o)
      have h2 := parts_len t
      rw [datas_len] at h1
      have h3 := (List.getElem?_eq_some_iff.mp ew).1
      exact ⟨h0, by omega⟩
    · exact partAt_ints (oks_mem (ok_kids o) (parts_mem (List.mem_of_getElem? ew))) e2 n hn
end Tc
namespace K48
open PySem PySem.Spec PyProof.Rows L2 Tc
def top (i : Nat) : Stmt := PySem.Challenge.pw_treeclaims_k48_whole_parts_of_terms.main.body.getD i (.Pass ⟨0, 0, 0, 0⟩)
abbrev s_BadNumber_init : Stmt := inClass (top 2) 0
abbrev s_BadRow_init : Stmt := inClass (top 3) 0
abbrev s_Unlike_init : Stmt := inClass (top 4) 0
abbrev s_TooMany_init : Stmt := inClass (top 5) 0
abbrev s_is_whole : Stmt := top 7
abbrev s_is_index : Stmt := top 8
abbrev s_is_name_text : Stmt := top 17
abbrev s_inner_of : Stmt := top 18
abbrev s_is_term : Stmt := top 19
abbrev s_need_term : Stmt := top 20
abbrev s_all_terms : Stmt := top 21
abbrev s_size_of_term : Stmt := top 22
abbrev s_depth_of_term : Stmt := top 23
abbrev s_need_small : Stmt := top 25
abbrev s_inner_parts : Stmt := top 27
abbrev s_all_parts : Stmt := top 28
abbrev s_part_by : Stmt := top 29
abbrev s_with_by : Stmt := top 30
abbrev s_places_in : Stmt := top 31
abbrev s_need_part : Stmt := top 32
abbrev s_part_at : Stmt := top 33
abbrev s_with_part : Stmt := top 34
abbrev s_law_pen : Stmt := top 36
abbrev s_law_draw : Stmt := top 37
abbrev s_law_pick : Stmt := top 38
abbrev s_law_is : Stmt := top 39
abbrev s_law_inner : Stmt := top 40
abbrev s_law_n : Stmt := top 41
abbrev s_law_c : Stmt := top 42
abbrev s_law_nil : Stmt := top 43
abbrev s_law_p : Stmt := top 44
abbrev s_law_drawn_term : Stmt := top 45
abbrev s_law_caught : Stmt := top 46
abbrev s_law_raise_so : Stmt := top 47
abbrev s_law_places : Stmt := top 48
abbrev s_law_part : Stmt := top 49
abbrev s_law_other : Stmt := top 50
abbrev s_law : Stmt := top 51
def d_BadNumber_init : He.DefD := ⟨("BadNumber", some "__init__"), "__init__", "BadNumber.__init__", defArgs s_BadNumber_init, defBody s_BadNumber_init, defScope s_BadNumber_init, [], []⟩
def d_BadRow_init : He.DefD := ⟨("BadRow", some "__init__"), "__init__", "BadRow.__init__", defArgs s_BadRow_init, defBody s_BadRow_init, defScope s_BadRow_init, [], []⟩
def d_Unlike_init : He.DefD := ⟨("Unlike", some "__init__"), "__init__", "Unlike.__init__", defArgs s_Unlike_init, defBody s_Unlike_init, defScope s_Unlike_init, [], []⟩
def d_TooMany_init : He.DefD := ⟨("TooMany", some "__init__"), "__init__", "TooMany.__init__", defArgs s_TooMany_init, defBody s_TooMany_init, defScope s_TooMany_init, [], []⟩
def d_is_whole : He.DefD := ⟨("is_whole", none), "is_whole", "is_whole", defArgs s_is_whole, defBody s_is_whole, defScope s_is_whole, [], []⟩
def d_is_index : He.DefD := ⟨("is_index", none), "is_index", "is_index", defArgs s_is_index, defBody s_is_index, defScope s_is_index, [], []⟩
def d_is_name_text : He.DefD := ⟨("is_name_text", none), "is_name_text", "is_name_text", defArgs s_is_name_text, defBody s_is_name_text, defScope s_is_name_text, [], []⟩
def d_inner_of : He.DefD := ⟨("inner_of", none), "inner_of", "inner_of", defArgs s_inner_of, defBody s_inner_of, defScope s_inner_of, [], []⟩
def d_is_term : He.DefD := ⟨("is_term", none), "is_term", "is_term", defArgs s_is_term, defBody s_is_term, defScope s_is_term, [], []⟩
def d_need_term : He.DefD := ⟨("need_term", none), "need_term", "need_term", defArgs s_need_term, defBody s_need_term, defScope s_need_term, [], []⟩
def d_all_terms : He.DefD := ⟨("all_terms", none), "all_terms", "all_terms", defArgs s_all_terms, defBody s_all_terms, defScope s_all_terms, [], []⟩
def d_size_of_term : He.DefD := ⟨("size_of_term", none), "size_of_term", "size_of_term", defArgs s_size_of_term, defBody s_size_of_term, defScope s_size_of_term, [], []⟩
def d_depth_of_term : He.DefD := ⟨("depth_of_term", none), "depth_of_term", "depth_of_term", defArgs s_depth_of_term, defBody s_depth_of_term, defScope s_depth_of_term, [], []⟩
def d_need_small : He.DefD := ⟨("need_small", none), "need_small", "need_small", defArgs s_need_small, defBody s_need_small, defScope s_need_small, [], []⟩
def d_inner_parts : He.DefD := ⟨("inner_parts", none), "inner_parts", "inner_parts", defArgs s_inner_parts, defBody s_inner_parts, defScope s_inner_parts, [], []⟩
def d_all_parts : He.DefD := ⟨("all_parts", none), "all_parts", "all_parts", defArgs s_all_parts, defBody s_all_parts, defScope s_all_parts, [], []⟩
def d_part_by : He.DefD := ⟨("part_by", none), "part_by", "part_by", defArgs s_part_by, defBody s_part_by, defScope s_part_by, [], []⟩
def d_with_by : He.DefD := ⟨("with_by", none), "with_by", "with_by", defArgs s_with_by, defBody s_with_by, defScope s_with_by, [], []⟩
def d_places_in : He.DefD := ⟨("places_in", none), "places_in", "places_in", defArgs s_places_in, defBody s_places_in, defScope s_places_in, [], []⟩
def d_need_part : He.DefD := ⟨("need_part", none), "need_part", "need_part", defArgs s_need_part, defBody s_need_part, defScope s_need_part, [], []⟩
def d_part_at : He.DefD := ⟨("part_at", none), "part_at", "part_at", defArgs s_part_at, defBody s_part_at, defScope s_part_at, [], []⟩
def d_with_part : He.DefD := ⟨("with_part", none), "with_part", "with_part", defArgs s_with_part, defBody s_with_part, defScope s_with_part, [], []⟩
def d_law_pen : He.DefD := ⟨("_law_pen", none), "_law_pen", "_law_pen", defArgs s_law_pen, defBody s_law_pen, defScope s_law_pen, [], []⟩
def d_law_draw : He.DefD := ⟨("_law_draw", none), "_law_draw", "_law_draw", defArgs s_law_draw, defBody s_law_draw, defScope s_law_draw, [], []⟩
def d_law_pick : He.DefD := ⟨("_law_pick", none), "_law_pick", "_law_pick", defArgs s_law_pick, defBody s_law_pick, defScope s_law_pick, [], []⟩
def d_law_is : He.DefD := ⟨("_law_is", none), "_law_is", "_law_is", defArgs s_law_is, defBody s_law_is, defScope s_law_is, [], []⟩
def d_law_inner : He.DefD := ⟨("_law_inner", none), "_law_inner", "_law_inner", defArgs s_law_inner, defBody s_law_inner, defScope s_law_inner, [], []⟩
def d_law_n : He.DefD := ⟨("_law_n", none), "_law_n", "_law_n", defArgs s_law_n, defBody s_law_n, defScope s_law_n, [], []⟩
def d_law_c : He.DefD := ⟨("_law_c", none), "_law_c", "_law_c", defArgs s_law_c, defBody s_law_c, defScope s_law_c, [], []⟩
def d_law_nil : He.DefD := ⟨("_law_nil", none), "_law_nil", "_law_nil", defArgs s_law_nil, defBody s_law_nil, defScope s_law_nil, [], []⟩
def d_law_p : He.DefD := ⟨("_law_p", none), "_law_p", "_law_p", defArgs s_law_p, defBody s_law_p, defScope s_law_p, [], []⟩
def d_law_drawn_term : He.DefD := ⟨("_law_drawn_term", none), "_law_drawn_term", "_law_drawn_term", defArgs s_law_drawn_term, defBody s_law_drawn_term, defScope s_law_drawn_term, [], []⟩
def d_law_caught : He.DefD := ⟨("_law_caught", none), "_law_caught", "_law_caught", defArgs s_law_caught, defBody s_law_caught, defScope s_law_caught, [], []⟩
def d_law_raise_so : He.DefD := ⟨("_law_raise_so", none), "_law_raise_so", "_law_raise_so", defArgs s_law_raise_so, defBody s_law_raise_so, defScope s_law_raise_so, [], []⟩
def d_law_places : He.DefD := ⟨("_law_places", none), "_law_places", "_law_places", defArgs s_law_places, defBody s_law_places, defScope s_law_places, [], []⟩
def d_law_part : He.DefD := ⟨("_law_part", none), "_law_part", "_law_part", defArgs s_law_part, defBody s_law_part, defScope s_law_part, [], []⟩
def d_law_other : He.DefD := ⟨("_law_other", none), "_law_other", "_law_other", defArgs s_law_other, defBody s_law_other, defScope s_law_other, [], []⟩
def d_law : He.DefD := ⟨("law", none), "law", "law", defArgs s_law, defBody s_law, defScope s_law, [], []⟩
def fn : List He.DefD := [d_BadNumber_init, d_BadRow_init, d_Unlike_init, d_TooMany_init, d_is_whole, d_is_index, d_is_name_text, d_inner_of, d_is_term, d_need_term, d_all_terms, d_size_of_term, d_depth_of_term, d_need_small, d_inner_parts, d_all_parts, d_part_by, d_with_by, d_places_in, d_need_part, d_part_at, d_with_part, d_law_pen, d_law_draw, d_law_pick, d_law_is, d_law_inner, d_law_n, d_law_c, d_law_nil, d_law_p, d_law_drawn_term, d_law_caught, d_law_raise_so, d_law_places, d_law_part, d_law_other, d_law]

def errs : List (Str × List Str) := [("BadNumber", ["what", "number", "row", "many", "limit"]), ("BadRow", ["what", "number", "row", "many", "limit"]), ("Unlike", ["what", "number", "row", "many", "limit"]), ("TooMany", ["what", "number", "row", "many", "limit"])]
def fa : List He.Fa := [.glo "TreeError", .glo "BadNumber", .glo "BadRow", .glo "Unlike", .glo "TooMany", .glo "is_whole", .glo "is_index", .glo "is_name_text", .glo "inner_of", .glo "is_term", .glo "need_term", .glo "all_terms", .glo "size_of_term", .glo "depth_of_term", .glo "need_small", .glo "inner_parts", .glo "all_parts", .glo "part_by", .glo "with_by", .glo "places_in", .glo "need_part", .glo "part_at", .glo "with_part", .glo "_law_pen", .glo "_law_draw", .glo "_law_pick", .glo "_law_is", .glo "_law_inner", .glo "_law_n", .glo "_law_c", .glo "_law_nil", .glo "_law_p", .glo "_law_drawn_term", .glo "_law_caught", .glo "_law_raise_so", .glo "_law_places", .glo "_law_part", .glo "_law_other", .free "ValueError", .free "all", .free "bool", .free "enumerate", .free "int", .free "isinstance", .free "len", .free "list", .free "max", .free "range", .free "repr", .free "str", .free "tuple", .str "LETTERS" "abcdefghijklmnopqrstuvwxyz", .str "DIGITS" "0123456789", .glo "WORDS", .int "MOST_SIGNS" (12), .int "MOST_TERMS" (5), .int "MOST_TUPLES" (400), .int "MOST_DEEP" (40), .glo "law"]
def tf : List He.Defn := [("law", none)]
def exT (K : PySem.W.Frag) : Bool := strTup K "WORDS" ["nil", "pair", "case", "of", "same", "then", "else", "end", "function", "claim", "where", "is", "by"]
def ex (K : PySem.W.Frag) : Bool := errsB K "TreeError" errs && exT K
structure TX (K : PySem.W.Frag) (mg : Str → Option Value) : Prop extends Txt fa fn "TreeError" errs K mg where
  tup : exT K = true
theorem tx_of {K : PySem.W.Frag} {mg : Str → Option Value} {h : Heap} (X : K.In h) (G : h.Ns mainGlobals mg) (c : He.SaysD fa fn K) (e : ex K = true) : TX K mg := by
  obtain ⟨h1, h2⟩ := Bool.and_eq_true_iff.mp e
  exact ⟨txt_of X G c h1, h2⟩
section
variable {K : PySem.W.Frag} {mg : Str → Option Value}
theorem g_TreeError (T : TX K mg) : mg "TreeError" = some (.ref (He.ga K "TreeError")) := T.g 0
theorem g_BadNumber (T : TX K mg) : mg "BadNumber" = some (.ref (He.ga K "BadNumber")) := T.g 1
theorem g_BadRow (T : TX K mg) : mg "BadRow" = some (.ref (He.ga K "BadRow")) := T.g 2
theorem g_Unlike (T : TX K mg) : mg "Unlike" = some (.ref (He.ga K "Unlike")) := T.g 3
theorem g_TooMany (T : TX K mg) : mg "TooMany" = some (.ref (He.ga K "TooMany")) := T.g 4
theorem g_is_whole (T : TX K mg) : mg "is_whole" = some (.ref (He.ga K "is_whole")) := T.g 5
theorem g_is_index (T : TX K mg) : mg "is_index" = some (.ref (He.ga K "is_index")) := T.g 6
theorem g_is_name_text (T : TX K mg) : mg "is_name_text" = some (.ref (He.ga K "is_name_text")) := T.g 7
theorem g_inner_of (T : TX K mg) : mg "inner_of" = some (.ref (He.ga K "inner_of")) := T.g 8
theorem g_is_term (T : TX K mg) : mg "is_term" = some (.ref (He.ga K "is_term")) := T.g 9
theorem g_need_term (T : TX K mg) : mg "need_term" = some (.ref (He.ga K "need_term")) := T.g 10
theorem g_all_terms (T : TX K mg) : mg "all_terms" = some (.ref (He.ga K "all_terms")) := T.g 11
theorem g_size_of_term (T : TX K mg) : mg "size_of_term" = some (.ref (He.ga K "size_of_term")) := T.g 12
theorem g_depth_of_term (T : TX K mg) : mg "depth_of_term" = some (.ref (He.ga K "depth_of_term")) := T.g 13
theorem g_need_small (T : TX K mg) : mg "need_small" = some (.ref (He.ga K "need_small")) := T.g 14
theorem g_inner_parts (T : TX K mg) : mg "inner_parts" = some (.ref (He.ga K "inner_parts")) := T.g 15
theorem g_all_parts (T : TX K mg) : mg "all_parts" = some (.ref (He.ga K "all_parts")) := T.g 16
theorem g_part_by (T : TX K mg) : mg "part_by" = some (.ref (He.ga K "part_by")) := T.g 17
theorem g_with_by (T : TX K mg) : mg "with_by" = some (.ref (He.ga K "with_by")) := T.g 18
theorem g_places_in (T : TX K mg) : mg "places_in" = some (.ref (He.ga K "places_in")) := T.g 19
theorem g_need_part (T : TX K mg) : mg "need_part" = some (.ref (He.ga K "need_part")) := T.g 20
theorem g_part_at (T : TX K mg) : mg "part_at" = some (.ref (He.ga K "part_at")) := T.g 21
theorem g_with_part (T : TX K mg) : mg "with_part" = some (.ref (He.ga K "with_part")) := T.g 22
theorem g_law_pen (T : TX K mg) : mg "_law_pen" = some (.ref (He.ga K "_law_pen")) := T.g 23
theorem g_law_draw (T : TX K mg) : mg "_law_draw" = some (.ref (He.ga K "_law_draw")) := T.g 24
theorem g_law_pick (T : TX K mg) : mg "_law_pick" = some (.ref (He.ga K "_law_pick")) := T.g 25
theorem g_law_is (T : TX K mg) : mg "_law_is" = some (.ref (He.ga K "_law_is")) := T.g 26
theorem g_law_inner (T : TX K mg) : mg "_law_inner" = some (.ref (He.ga K "_law_inner")) := T.g 27
theorem g_law_n (T : TX K mg) : mg "_law_n" = some (.ref (He.ga K "_law_n")) := T.g 28
theorem g_law_c (T : TX K mg) : mg "_law_c" = some (.ref (He.ga K "_law_c")) := T.g 29
theorem g_law_nil (T : TX K mg) : mg "_law_nil" = some (.ref (He.ga K "_law_nil")) := T.g 30
theorem g_law_p (T : TX K mg) : mg "_law_p" = some (.ref (He.ga K "_law_p")) := T.g 31
theorem g_law_drawn_term (T : TX K mg) : mg "_law_drawn_term" = some (.ref (He.ga K "_law_drawn_term")) := T.g 32
theorem g_law_caught (T : TX K mg) : mg "_law_caught" = some (.ref (He.ga K "_law_caught")) := T.g 33
theorem g_law_raise_so (T : TX K mg) : mg "_law_raise_so" = some (.ref (He.ga K "_law_raise_so")) := T.g 34
theorem g_law_places (T : TX K mg) : mg "_law_places" = some (.ref (He.ga K "_law_places")) := T.g 35
theorem g_law_part (T : TX K mg) : mg "_law_part" = some (.ref (He.ga K "_law_part")) := T.g 36
theorem g_law_other (T : TX K mg) : mg "_law_other" = some (.ref (He.ga K "_law_other")) := T.g 37
theorem g_ValueError (T : TX K mg) : mg "ValueError" = none := T.n 38
theorem g_all (T : TX K mg) : mg "all" = none := T.n 39
theorem g_bool (T : TX K mg) : mg "bool" = none := T.n 40
theorem g_enumerate (T : TX K mg) : mg "enumerate" = none := T.n 41
theorem g_int (T : TX K mg) : mg "int" = none := T.n 42
theorem g_isinstance (T : TX K mg) : mg "isinstance" = none := T.n 43
theorem g_len (T : TX K mg) : mg "len" = none := T.n 44
theorem g_list (T : TX K mg) : mg "list" = none := T.n 45
theorem g_max (T : TX K mg) : mg "max" = none := T.n 46
theorem g_range (T : TX K mg) : mg "range" = none := T.n 47
theorem g_repr (T : TX K mg) : mg "repr" = none := T.n 48
theorem g_str (T : TX K mg) : mg "str" = none := T.n 49
theorem g_tuple (T : TX K mg) : mg "tuple" = none := T.n 50
theorem g_LETTERS (T : TX K mg) : ∃ t, mg "LETTERS" = some (.str "abcdefghijklmnopqrstuvwxyz" t) := T.s 51
theorem g_DIGITS (T : TX K mg) : ∃ t, mg "DIGITS" = some (.str "0123456789" t) := T.s 52
theorem g_WORDS (T : TX K mg) : mg "WORDS" = some (.ref (He.ga K "WORDS")) := T.g 53
theorem g_MOST_SIGNS (T : TX K mg) : ∃ t, mg "MOST_SIGNS" = some (.int (12) t) := T.i 54
theorem g_MOST_TERMS (T : TX K mg) : ∃ t, mg "MOST_TERMS" = some (.int (5) t) := T.i 55
theorem g_MOST_TUPLES (T : TX K mg) : ∃ t, mg "MOST_TUPLES" = some (.int (400) t) := T.i 56
theorem g_MOST_DEEP (T : TX K mg) : ∃ t, mg "MOST_DEEP" = some (.int (40) t) := T.i 57
theorem g_law (T : TX K mg) : mg "law" = some (.ref (He.ga K "law")) := T.g 58
theorem F_BadNumber_init (T : TX K mg) : ∃ fd, Fun K "__init__" "BadNumber.__init__" s_BadNumber_init (He.ma K (He.ga K "BadNumber") "__init__") fd := by
  obtain ⟨fd, F⟩ := T.says.def_ 0 (d := d_BadNumber_init) rfl
  exact ⟨fd, fun_of F⟩
theorem F_BadRow_init (T : TX K mg) : ∃ fd, Fun K "__init__" "BadRow.__init__" s_BadRow_init (He.ma K (He.ga K "BadRow") "__init__") fd := by
  obtain ⟨fd, F⟩ := T.says.def_ 1 (d := d_BadRow_init) rfl
  exact ⟨fd, fun_of F⟩
theorem F_Unlike_init (T : TX K mg) : ∃ fd, Fun K "__init__" "Unlike.__init__" s_Unlike_init (He.ma K (He.ga K "Unlike") "__init__") fd := by
  obtain ⟨fd, F⟩ := T.says.def_ 2 (d := d_Unlike_init) rfl
  exact ⟨fd, fun_of F⟩
theorem F_TooMany_init (T : TX K mg) : ∃ fd, Fun K "__init__" "TooMany.__init__" s_TooMany_init (He.ma K (He.ga K "TooMany") "__init__") fd := by
  obtain ⟨fd, F⟩ := T.says.def_ 3 (d := d_TooMany_init) rfl
  exact ⟨fd, fun_of F⟩
theorem F_is_whole (T : TX K mg) : ∃ fd, Fun K "is_whole" "is_whole" s_is_whole (He.ga K "is_whole") fd := by
  obtain ⟨fd, F⟩ := T.says.def_ 4 (d := d_is_whole) rfl
  exact ⟨fd, fun_of F⟩
theorem F_is_index (T : TX K mg) : ∃ fd, Fun K "is_index" "is_index" s_is_index (He.ga K "is_index") fd := by
  obtain ⟨fd, F⟩ := T.says.def_ 5 (d := d_is_index) rfl
  exact ⟨fd, fun_of F⟩
theorem F_is_name_text (T : TX K mg) : ∃ fd, Fun K "is_name_text" "is_name_text" s_is_name_text (He.ga K "is_name_text") fd := by
  obtain ⟨fd, F⟩ := T.says.def_ 6 (d := d_is_name_text) rfl
  exact ⟨fd, fun_of F⟩
theorem F_inner_of (T : TX K mg) : ∃ fd, Fun K "inner_of" "inner_of" s_inner_of (He.ga K "inner_of") fd := by
  obtain ⟨fd, F⟩ := T.says.def_ 7 (d := d_inner_of) rfl
  exact ⟨fd, fun_of F⟩
theorem F_is_term (T : TX K mg) : ∃ fd, Fun K "is_term" "is_term" s_is_term (He.ga K "is_term") fd := by
  obtain ⟨fd, F⟩ := T.says.def_ 8 (d := d_is_term) rfl
  exact ⟨fd, fun_of F⟩
theorem F_need_term (T : TX K mg) : ∃ fd, Fun K "need_term" "need_term" s_need_term (He.ga K "need_term") fd := by
  obtain ⟨fd, F⟩ := T.says.def_ 9 (d := d_need_term) rfl
  exact ⟨fd, fun_of F⟩
theorem F_all_terms (T : TX K mg) : ∃ fd, Fun K "all_terms" "all_terms" s_all_terms (He.ga K "all_terms") fd := by
  obtain ⟨fd, F⟩ := T.says.def_ 10 (d := d_all_terms) rfl
  exact ⟨fd, fun_of F⟩
theorem F_size_of_term (T : TX K mg) : ∃ fd, Fun K "size_of_term" "size_of_term" s_size_of_term (He.ga K "size_of_term") fd := by
  obtain ⟨fd, F⟩ := T.says.def_ 11 (d := d_size_of_term) rfl
  exact ⟨fd, fun_of F⟩
theorem F_depth_of_term (T : TX K mg) : ∃ fd, Fun K "depth_of_term" "depth_of_term" s_depth_of_term (He.ga K "depth_of_term") fd := by
  obtain ⟨fd, F⟩ := T.says.def_ 12 (d := d_depth_of_term) rfl
  exact ⟨fd, fun_of F⟩
theorem F_need_small (T : TX K mg) : ∃ fd, Fun K "need_small" "need_small" s_need_small (He.ga K "need_small") fd := by
  obtain ⟨fd, F⟩ := T.says.def_ 13 (d := d_need_small) rfl
  exact ⟨fd, fun_of F⟩
theorem F_inner_parts (T : TX K mg) : ∃ fd, Fun K "inner_parts" "inner_parts" s_inner_parts (He.ga K "inner_parts") fd := by
  obtain ⟨fd, F⟩ := T.says.def_ 14 (d := d_inner_parts) rfl
  exact ⟨fd, fun_of F⟩
theorem F_all_parts (T : TX K mg) : ∃ fd, Fun K "all_parts" "all_parts" s_all_parts (He.ga K "all_parts") fd := by
  obtain ⟨fd, F⟩ := T.says.def_ 15 (d := d_all_parts) rfl
  exact ⟨fd, fun_of F⟩
theorem F_part_by (T : TX K mg) : ∃ fd, Fun K "part_by" "part_by" s_part_by (He.ga K "part_by") fd := by
  obtain ⟨fd, F⟩ := T.says.def_ 16 (d := d_part_by) rfl
  exact ⟨fd, fun_of F⟩
theorem F_with_by (T : TX K mg) : ∃ fd, Fun K "with_by" "with_by" s_with_by (He.ga K "with_by") fd := by
  obtain ⟨fd, F⟩ := T.says.def_ 17 (d := d_with_by) rfl
  exact ⟨fd, fun_of F⟩
theorem F_places_in (T : TX K mg) : ∃ fd, Fun K "places_in" "places_in" s_places_in (He.ga K "places_in") fd := by
  obtain ⟨fd, F⟩ := T.says.def_ 18 (d := d_places_in) rfl
  exact ⟨fd, fun_of F⟩
theorem F_need_part (T : TX K mg) : ∃ fd, Fun K "need_part" "need_part" s_need_part (He.ga K "need_part") fd := by
  obtain ⟨fd, F⟩ := T.says.def_ 19 (d := d_need_part) rfl
  exact ⟨fd, fun_of F⟩
theorem F_part_at (T : TX K mg) : ∃ fd, Fun K "part_at" "part_at" s_part_at (He.ga K "part_at") fd := by
  obtain ⟨fd, F⟩ := T.says.def_ 20 (d := d_part_at) rfl
  exact ⟨fd, fun_of F⟩
theorem F_with_part (T : TX K mg) : ∃ fd, Fun K "with_part" "with_part" s_with_part (He.ga K "with_part") fd := by
  obtain ⟨fd, F⟩ := T.says.def_ 21 (d := d_with_part) rfl
  exact ⟨fd, fun_of F⟩
theorem F_law_pen (T : TX K mg) : ∃ fd, Fun K "_law_pen" "_law_pen" s_law_pen (He.ga K "_law_pen") fd := by
  obtain ⟨fd, F⟩ := T.says.def_ 22 (d := d_law_pen) rfl
  exact ⟨fd, fun_of F⟩
theorem F_law_draw (T : TX K mg) : ∃ fd, Fun K "_law_draw" "_law_draw" s_law_draw (He.ga K "_law_draw") fd := by
  obtain ⟨fd, F⟩ := T.says.def_ 23 (d := d_law_draw) rfl
  exact ⟨fd, fun_of F⟩
theorem F_law_pick (T : TX K mg) : ∃ fd, Fun K "_law_pick" "_law_pick" s_law_pick (He.ga K "_law_pick") fd := by
  obtain ⟨fd, F⟩ := T.says.def_ 24 (d := d_law_pick) rfl
  exact ⟨fd, fun_of F⟩
theorem F_law_is (T : TX K mg) : ∃ fd, Fun K "_law_is" "_law_is" s_law_is (He.ga K "_law_is") fd := by
  obtain ⟨fd, F⟩ := T.says.def_ 25 (d := d_law_is) rfl
  exact ⟨fd, fun_of F⟩
theorem F_law_inner (T : TX K mg) : ∃ fd, Fun K "_law_inner" "_law_inner" s_law_inner (He.ga K "_law_inner") fd := by
  obtain ⟨fd, F⟩ := T.says.def_ 26 (d := d_law_inner) rfl
  exact ⟨fd, fun_of F⟩
theorem F_law_n (T : TX K mg) : ∃ fd, Fun K "_law_n" "_law_n" s_law_n (He.ga K "_law_n") fd := by
  obtain ⟨fd, F⟩ := T.says.def_ 27 (d := d_law_n) rfl
  exact ⟨fd, fun_of F⟩
theorem F_law_c (T : TX K mg) : ∃ fd, Fun K "_law_c" "_law_c" s_law_c (He.ga K "_law_c") fd := by
  obtain ⟨fd, F⟩ := T.says.def_ 28 (d := d_law_c) rfl
  exact ⟨fd, fun_of F⟩
theorem F_law_nil (T : TX K mg) : ∃ fd, Fun K "_law_nil" "_law_nil" s_law_nil (He.ga K "_law_nil") fd := by
  obtain ⟨fd, F⟩ := T.says.def_ 29 (d := d_law_nil) rfl
  exact ⟨fd, fun_of F⟩
theorem F_law_p (T : TX K mg) : ∃ fd, Fun K "_law_p" "_law_p" s_law_p (He.ga K "_law_p") fd := by
  obtain ⟨fd, F⟩ := T.says.def_ 30 (d := d_law_p) rfl
  exact ⟨fd, fun_of F⟩
theorem F_law_drawn_term (T : TX K mg) : ∃ fd, Fun K "_law_drawn_term" "_law_drawn_term" s_law_drawn_term (He.ga K "_law_drawn_term") fd := by
  obtain ⟨fd, F⟩ := T.says.def_ 31 (d := d_law_drawn_term) rfl
  exact ⟨fd, fun_of F⟩
theorem F_law_caught (T : TX K mg) : ∃ fd, Fun K "_law_caught" "_law_caught" s_law_caught (He.ga K "_law_caught") fd := by
  obtain ⟨fd, F⟩ := T.says.def_ 32 (d := d_law_caught) rfl
  exact ⟨fd, fun_of F⟩
theorem F_law_raise_so (T : TX K mg) : ∃ fd, Fun K "_law_raise_so" "_law_raise_so" s_law_raise_so (He.ga K "_law_raise_so") fd := by
  obtain ⟨fd, F⟩ := T.says.def_ 33 (d := d_law_raise_so) rfl
  exact ⟨fd, fun_of F⟩
theorem F_law_places (T : TX K mg) : ∃ fd, Fun K "_law_places" "_law_places" s_law_places (He.ga K "_law_places") fd := by
  obtain ⟨fd, F⟩ := T.says.def_ 34 (d := d_law_places) rfl
  exact ⟨fd, fun_of F⟩
theorem F_law_part (T : TX K mg) : ∃ fd, Fun K "_law_part" "_law_part" s_law_part (He.ga K "_law_part") fd := by
  obtain ⟨fd, F⟩ := T.says.def_ 35 (d := d_law_part) rfl
  exact ⟨fd, fun_of F⟩
theorem F_law_other (T : TX K mg) : ∃ fd, Fun K "_law_other" "_law_other" s_law_other (He.ga K "_law_other") fd := by
  obtain ⟨fd, F⟩ := T.says.def_ 36 (d := d_law_other) rfl
  exact ⟨fd, fun_of F⟩
theorem F_law (T : TX K mg) : ∃ fd, Fun K "law" "law" s_law (He.ga K "law") fd := by
  obtain ⟨fd, F⟩ := T.says.def_ 37 (d := d_law) rfl
  exact ⟨fd, fun_of F⟩
end
theorem sc_BadNumber_init : FnScope ["self", "what", "number"] ["self", "what", "number"] (defScope s_BadNumber_init) := ⟨rfl, rfl, rfl, by decide +kernel, rfl, by decide +kernel, by decide +kernel⟩
-- slots of BadNumber_init: 0:self 1:what 2:number
theorem sc_BadRow_init : FnScope ["self", "what", "row"] ["self", "what", "row"] (defScope s_BadRow_init) := ⟨rfl, rfl, rfl, by decide +kernel, rfl, by decide +kernel, by decide +kernel⟩
-- slots of BadRow_init: 0:self 1:what 2:row
theorem sc_Unlike_init : FnScope ["self", "what"] ["self", "what"] (defScope s_Unlike_init) := ⟨rfl, rfl, rfl, by decide +kernel, rfl, by decide +kernel, by decide +kernel⟩
-- slots of Unlike_init: 0:self 1:what
theorem sc_TooMany_init : FnScope ["self", "what", "many", "limit"] ["self", "what", "many", "limit"] (defScope s_TooMany_init) := ⟨rfl, rfl, rfl, by decide +kernel, rfl, by decide +kernel, by decide +kernel⟩
-- slots of TooMany_init: 0:self 1:what 2:many 3:limit
theorem sc_is_whole : FnScope ["value"] ["value"] (defScope s_is_whole) := ⟨rfl, rfl, rfl, by decide +kernel, rfl, by decide +kernel, by decide +kernel⟩
-- slots of is_whole: 0:value
theorem sc_is_index : FnScope ["value", "many"] ["value", "many"] (defScope s_is_index) := ⟨rfl, rfl, rfl, by decide +kernel, rfl, by decide +kernel, by decide +kernel⟩
-- slots of is_index: 0:value 1:many
theorem sc_is_name_text : FnScope ["value", "behind", "sign"] ["value"] (defScope s_is_name_text) := ⟨rfl, rfl, rfl, by decide +kernel, rfl, by decide +kernel, by decide +kernel⟩
-- slots of is_name_text: 0:value 1:behind 2:sign
theorem sc_inner_of : FnScope ["term", "right", "name"] ["term"] (defScope s_inner_of) := ⟨rfl, rfl, rfl, by decide +kernel, rfl, by decide +kernel, by decide +kernel⟩
-- slots of inner_of: 0:term 1:right 2:name
theorem sc_is_term : FnScope ["value", "line", "many", "here", "deep", "inner", "part"] ["value"] (defScope s_is_term) := ⟨rfl, rfl, rfl, by decide +kernel, rfl, by decide +kernel, by decide +kernel⟩
-- slots of is_term: 0:value 1:line 2:many 3:here 4:deep 5:inner 6:part
theorem sc_need_term : FnScope ["what", "value"] ["what", "value"] (defScope s_need_term) := ⟨rfl, rfl, rfl, by decide +kernel, rfl, by decide +kernel, by decide +kernel⟩
-- slots of need_term: 0:what 1:value
theorem sc_all_terms : FnScope ["term", "found", "line", "here"] ["term"] (defScope s_all_terms) := ⟨rfl, rfl, rfl, by decide +kernel, rfl, by decide +kernel, by decide +kernel⟩
-- slots of all_terms: 0:term 1:found 2:line 3:here
theorem sc_size_of_term : FnScope ["term"] ["term"] (defScope s_size_of_term) := ⟨rfl, rfl, rfl, by decide +kernel, rfl, by decide +kernel, by decide +kernel⟩
-- slots of size_of_term: 0:term
theorem sc_depth_of_term : FnScope ["term", "inner", "part"] ["term"] (defScope s_depth_of_term) := ⟨rfl, rfl, rfl, by decide +kernel, rfl, by decide +kernel, by decide +kernel⟩
-- slots of depth_of_term: 0:term 1:inner 2:part
theorem sc_need_small : FnScope ["term"] ["term"] (defScope s_need_small) := ⟨rfl, rfl, rfl, by decide +kernel, rfl, by decide +kernel, by decide +kernel⟩
-- slots of need_small: 0:term
theorem sc_inner_parts : FnScope ["term"] ["term"] (defScope s_inner_parts) := ⟨rfl, rfl, rfl, by decide +kernel, rfl, by decide +kernel, by decide +kernel⟩
-- slots of inner_parts: 0:term
theorem sc_all_parts : FnScope ["term", "found", "line", "place", "here", "at", "part", "inner"] ["term"] (defScope s_all_parts) := ⟨rfl, rfl, rfl, by decide +kernel, rfl, by decide +kernel, by decide +kernel⟩
-- slots of all_parts: 0:term 1:found 2:line 3:place 4:here 5:at 6:part 7:inner
theorem sc_part_by : FnScope ["term", "place", "at", "inner"] ["term", "place"] (defScope s_part_by) := ⟨rfl, rfl, rfl, by decide +kernel, rfl, by decide +kernel, by decide +kernel⟩
-- slots of part_by: 0:term 1:place 2:at 3:inner
theorem sc_with_by : FnScope ["term", "place", "other", "inner"] ["term", "place", "other"] (defScope s_with_by) := ⟨rfl, rfl, rfl, by decide +kernel, rfl, by decide +kernel, by decide +kernel⟩
-- slots of with_by: 0:term 1:place 2:other 3:inner
theorem sc_places_in : FnScope ["term", "place", "part"] ["term"] (defScope s_places_in) := ⟨rfl, rfl, rfl, by decide +kernel, rfl, by decide +kernel, by decide +kernel⟩
-- slots of places_in: 0:term 1:place 2:part
theorem sc_need_part : FnScope ["term", "place", "known"] ["term", "place"] (defScope s_need_part) := ⟨rfl, rfl, rfl, by decide +kernel, rfl, by decide +kernel, by decide +kernel⟩
-- slots of need_part: 0:term 1:place 2:known
theorem sc_part_at : FnScope ["term", "place", "known"] ["term", "place"] (defScope s_part_at) := ⟨rfl, rfl, rfl, by decide +kernel, rfl, by decide +kernel, by decide +kernel⟩
-- slots of part_at: 0:term 1:place 2:known
theorem sc_with_part : FnScope ["term", "place", "other", "known"] ["term", "place", "other"] (defScope s_with_part) := ⟨rfl, rfl, rfl, by decide +kernel, rfl, by decide +kernel, by decide +kernel⟩
-- slots of with_part: 0:term 1:place 2:other 3:known
theorem sc_law_pen : FnScope ["script", "fold", "cell"] ["script"] (defScope s_law_pen) := ⟨rfl, rfl, rfl, by decide +kernel, rfl, by decide +kernel, by decide +kernel⟩
-- slots of _law_pen: 0:script 1:fold 2:cell
theorem sc_law_draw : FnScope ["pen", "many", "cell", "digit", "blend"] ["pen", "many"] (defScope s_law_draw) := ⟨rfl, rfl, rfl, by decide +kernel, rfl, by decide +kernel, by decide +kernel⟩
-- slots of _law_draw: 0:pen 1:many 2:cell 3:digit 4:blend
theorem sc_law_pick : FnScope ["pen", "some"] ["pen", "some"] (defScope s_law_pick) := ⟨rfl, rfl, rfl, by decide +kernel, rfl, by decide +kernel, by decide +kernel⟩
-- slots of _law_pick: 0:pen 1:some
theorem sc_law_is : FnScope ["told", "due", "at"] ["told", "due"] (defScope s_law_is) := ⟨rfl, rfl, rfl, by decide +kernel, rfl, by decide +kernel, by decide +kernel⟩
-- slots of _law_is: 0:told 1:due 2:at
theorem sc_law_inner : FnScope ["term"] ["term"] (defScope s_law_inner) := ⟨rfl, rfl, rfl, by decide +kernel, rfl, by decide +kernel, by decide +kernel⟩
-- slots of _law_inner: 0:term
theorem sc_law_n : FnScope ["name"] ["name"] (defScope s_law_n) := ⟨rfl, rfl, rfl, by decide +kernel, rfl, by decide +kernel, by decide +kernel⟩
-- slots of _law_n: 0:name
theorem sc_law_c : FnScope ["name", "terms"] ["name", "terms"] (defScope s_law_c) := ⟨rfl, rfl, rfl, by decide +kernel, rfl, by decide +kernel, by decide +kernel⟩
-- slots of _law_c: 0:name 1:terms
theorem sc_law_nil : FnScope [] [] (defScope s_law_nil) := ⟨rfl, rfl, rfl, by decide +kernel, rfl, by decide +kernel, by decide +kernel⟩
-- slots of _law_nil: 
theorem sc_law_p : FnScope ["one", "other"] ["one", "other"] (defScope s_law_p) := ⟨rfl, rfl, rfl, by decide +kernel, rfl, by decide +kernel, by decide +kernel⟩
-- slots of _law_p: 0:one 1:other
theorem sc_law_drawn_term : FnScope ["pen", "names", "calls", "deep", "way", "name", "turn", "parts", "many"] ["pen", "names", "calls", "deep"] (defScope s_law_drawn_term) := ⟨rfl, rfl, rfl, by decide +kernel, rfl, by decide +kernel, by decide +kernel⟩
-- slots of _law_drawn_term: 0:pen 1:names 2:calls 3:deep 4:way 5:name 6:turn 7:parts 8:many
theorem sc_law_caught : FnScope ["action", "e", "found"] ["action"] (defScope s_law_caught) := ⟨rfl, rfl, rfl, by decide +kernel, rfl, by decide +kernel, by decide +kernel⟩
-- slots of _law_caught: 0:action 1:e 2:found
theorem sc_law_raise_so : FnScope ["calls", "call", "due", "told"] ["calls"] (defScope s_law_raise_so) := ⟨rfl, rfl, rfl, by decide +kernel, rfl, by decide +kernel, by decide +kernel⟩
-- slots of _law_raise_so: 0:calls 1:call 2:due 3:told
theorem sc_law_places : FnScope ["term", "place", "found", "inner", "at"] ["term", "place"] (defScope s_law_places) := ⟨rfl, rfl, rfl, by decide +kernel, rfl, by decide +kernel, by decide +kernel⟩
-- slots of _law_places: 0:term 1:place 2:found 3:inner 4:at
theorem sc_law_part : FnScope ["term", "place", "at"] ["term", "place"] (defScope s_law_part) := ⟨rfl, rfl, rfl, by decide +kernel, rfl, by decide +kernel, by decide +kernel⟩
-- slots of _law_part: 0:term 1:place 2:at
theorem sc_law_other : FnScope ["term", "place", "new", "inner"] ["term", "place", "new"] (defScope s_law_other) := ⟨rfl, rfl, rfl, by decide +kernel, rfl, by decide +kernel, by decide +kernel⟩
-- slots of _law_other: 0:term 1:place 2:new 3:inner
theorem sc_law : FnScope ["script", "pen", "lap", "term", "case", "places", "turn", "place", "given", "new", "bad", "odd", "calls"] ["script"] (defScope s_law) := ⟨rfl, rfl, rfl, by decide +kernel, rfl, by decide +kernel, by decide +kernel⟩
-- slots of law: 0:script 1:pen 2:lap 3:term 4:case 5:places 6:turn 7:place 8:given 9:new 10:bad 11:odd 12:calls
end K48
namespace K48
open PySem PySem.Spec PyProof.Rows L2 Tc
abbrev R : PySem.W.OpenRow := PySem.W.OpenLaw.row PySem.Challenge.rw_treeclaims_k48_whole_parts_of_terms
abbrev hk : PySem.W.Hook := hookZ 5 fa fn tf ex
def ob (s : PySem.W.SharedT) : AlZ := obsZ 5 fa fn tf ex (HandSHeadRun.getT s)
theorem ob_eq (s : PySem.W.SharedT) : ob s = hk.obs s.abs := obsZ_eq (HandSHeadRun.getT_eq s)
def loose0 : List Str := ["TreeError", "BadNumber", "BadRow", "Unlike", "TooMany", "is_whole", "is_index", "LETTERS", "DIGITS", "WORDS", "MOST_SIGNS", "MOST_TERMS", "MOST_TUPLES", "MOST_DEEP", "is_name_text", "inner_of", "is_term", "need_term", "all_terms", "size_of_term"]
def loose1 : List Str := ["depth_of_term", "need_small", "inner_parts", "all_parts", "part_by", "with_by", "places_in", "need_part", "part_at", "with_part", "_law_pen", "_law_draw", "_law_pick", "_law_is", "_law_inner", "_law_n", "_law_c", "_law_nil", "_law_p", "_law_drawn_term"]
def loose2 : List Str := ["_law_caught", "_law_raise_so", "_law_places", "_law_part", "_law_other"]
def loose : List Str := loose0 ++ loose1 ++ loose2
theorem run (w : World) : HandSHeadRun.RunEq R (PySem.W.view R.prog [51]) hk ob 30000 loose w := by
  intro os
  kernel_rfl
end K48
namespace K48
open PySem PySem.Spec PyProof.Rows L2 Tc
section
variable {P : Program} {w : World} {K : PySem.W.Frag} {mg : Str → Option Value} {base : Heap}
theorem c_law_pen (T : TX K mg) : Callee P w K mg base CX0 1 "_law_pen" ["script"] (spPen K) := by
  obtain ⟨fd, F⟩ := F_law_pen T
  refine callee_mk F (g_law_pen T) (fun _ _ _ _ _ _ us hl => match us, hl with | [_], _ => rfl) ?_
  refine F.ok sc_law_pen (fun vs H Q E h => by obtain ⟨a, ns, rfl, _⟩ := h; rfl) fun cdv A outer s H vs Q E hr h => ?_
  obtain ⟨a, ns, rfl, hS, hl, k⟩ := h
  refine ⟨_, pss_cons (ps_set (i := 1) sc_law_pen.nd rfl (Or.inl rfl) pe_int)
    (pss_cons (ps_for PassesOwn.never rfl (pi_list (pv 0)) (pg_name (i := 2) sc_law_pen.nd rfl (Or.inl rfl))
      (pss_one (ps_set (i := 1) sc_law_pen.nd rfl (Or.inl rfl) (pe_op op_mod (pe_callTy call_int1 (by rfl) (g_int T) PyProof.Rows.boot_int (pa_cons (pe_op op_add (pe_op op_mul (pv 1) pe_int) (pv 2)) pa_nil)) pe_int))))
    (pss_one (ps_ret (pe_disp (pps_cons pe_str (pe_callTy call_list_of (by rfl) (g_list T) PyProof.Rows.boot_list (pa_cons (pv 0) pa_nil)) (pps_cons pe_str pe_int (pps_cons pe_str pe_int (pps_cons pe_str pe_int (pps_cons pe_str (pv 1) pps_nil))))) rfl rfl (by simp) (by decide))))), ?_⟩
  refine ⟨_, rfl, a, rfl, ⟨_, hS⟩, for_list (K := K) (a := a) (xs := ns.map V.int) (fun _ σ H1 => ∃ (f : Int) (v : Option V), σ = [some (.ref a), some (.int f), v] ∧ H1 = H ∧ 0 ≤ f ∧ f < 2147483648) ⟨0, none, rfl, rfl, by decide, by decide⟩ (fun _ σ H1 _ ⟨_, _, _, e, _⟩ => e ▸ hS) ?_ ?_⟩
  · rintro i y σ H1 hi ⟨f, v, rfl, rfl, h0, h1⟩
    obtain ⟨z, rfl⟩ : ∃ z, y = V.int z := by
      rw [List.getElem?_map] at hi
      cases e : ns[i]? with
      | none => rw [e] at hi; cases hi
      | some z => rw [e] at hi; exact ⟨z, (Option.some.inj hi).symm⟩
    refine ⟨_, rfl, _, _, rfl, rfl, .inr ⟨by decide, by decide⟩, _, rfl, _, _, rfl, rfl, .inl ⟨_, rfl, _, _, rfl, rfl, (by show (0 : Int) < 1000000007; decide), ?_⟩⟩
    have h2 := Int.emod_nonneg (f * 47 + z) (show (1000000007 : Int) ≠ 0 by decide)
    have h3 := Int.emod_lt_of_pos (f * 47 + z) (show (0 : Int) < 1000000007 by decide)
    exact ⟨_, _, rfl, rfl, h2, by omega⟩
  · rintro σ H1 ⟨f, v, rfl, rfl, h0, h1⟩
    intro p hp
    have hS2 : SqL K (upd H1 p (.dK [])) a (ns.map V.int) := (Same.new hp).seq hS
    refine ⟨_, rfl, a, _, rfl, .inl hS2, fun l hl2 => ?_⟩
    refine ⟨_, rfl, ?_⟩
    have npl : p ≠ l := ne_of_none upd_same hl2
    refine ⟨by rw [upd_ne npl, upd_same], [(.inr "cells", .ref l), (.inr "at", .int 0), (.inr "digits", .int 0), (.inr "count", .int 0), (.inr "fold", .int f)], rfl, (by show 5 ≤ 15; decide), ?_⟩
    rw [pen_made]
    refine k p _ ⟨l, ns, 0, 0, 0, f, upd_same, by rw [upd_ne npl.symm, upd_same], hl, by decide, by decide, h0, h1⟩ hp fun b o e => ?_
    rw [upd_ne (ne_of_none e hp), upd_ne (fun z => ?_), upd_ne (ne_of_none e hp)]
    · exact e
    · subst z
      rw [upd_ne npl.symm] at hl2
      rw [hl2] at e
      cases e
end
end K48
namespace K48
open PySem PySem.Spec PyProof.Rows L2 Tc
section
variable {P : Program} {w : World} {K : PySem.W.Frag} {mg : Str → Option Value} {base : Heap}
theorem c_law_draw (T : TX K mg) : Callee P w K mg base CX0 1 "_law_draw" ["pen", "many"] spDrawC := by
  obtain ⟨fd, F⟩ := F_law_draw T
  refine callee_mk F (g_law_draw T) (fun _ _ _ _ _ _ us hl => match us, hl with | [_, _], _ => rfl) ?_
  refine F.ok sc_law_draw (fun vs H Q E h => by obtain ⟨p, c, m, rfl, _⟩ := h; rfl) fun cdv A outer s H vs Q E hr h => ?_
  obtain ⟨p, c, m, rfl, ⟨ns, a, d, n, f, hp, hc, hl, ha, hd, hf, hf2⟩, hm, hm2, k⟩ := h
  have hu := hu_of hr
  have npc : p ≠ c := ne_of hp hc (by intro z; cases z)
  refine ⟨_, pss_cons (ps_dput hu (pv 0) pe_str (pe_op op_add (pe_dget hu (pv 0) pe_str (fun _ _ => rfl)) pe_int) rfl)
    (C8.pss_cut (ps_if (pw_and (pt_cmpR op_eq (pe_dget hu (pv 0) pe_str (fun _ _ => rfl)) pe_int (nomark _)) (pw_and1 (pt_cmpR op_lt (pe_dget hu (pv 0) pe_str (fun _ _ => rfl)) (pe_callB call_len_seq (by rfl) (g_len T) PySem.boot_len (pa_cons (pe_dget hu (pv 0) pe_str (fun _ _ => rfl)) pa_nil)) (nomark _)))).pt
        (pss_cons (ps_set (i := 2) sc_law_draw.nd rfl (Or.inl rfl) (pe_ix ix_list (pe_dget hu (pv 0) pe_str (fun _ _ => rfl)) (pe_dget hu (pv 0) pe_str (fun _ _ => rfl)) (fun _ _ => rfl)))
        (pss_cons (ps_dput hu (pv 0) pe_str (pe_op op_add (pe_dget hu (pv 0) pe_str (fun _ _ => rfl)) pe_int) rfl)
        (pss_one (ps_if (pt_cmpR op_ge (pv 2) (pe_op op_pow pe_int pe_int) (nomark _))
          (pss_one (ps_dput hu (pv 0) pe_str (pe_op op_sub (pv 2) (pe_op op_pow pe_int pe_int)) rfl))
          (pss_one (ps_dput hu (pv 0) pe_str (pe_op op_mod (pe_callTy call_int1 (by rfl) (g_int T) PyProof.Rows.boot_int (pa_cons (pe_op op_add (pe_op op_mul (pe_dget hu (pv 0) pe_str (fun _ _ => rfl)) pe_int) (pv 2)) pa_nil)) pe_int) rfl))))))
        pss_nil)
    (pss_cons (ps_if (pt_cmpR op_gt (pe_dget hu (pv 0) pe_str (fun _ _ => rfl)) pe_int (nomark _))
        (pss_cons (ps_set (i := 3) sc_law_draw.nd rfl (Or.inl rfl) (pe_op op_mod (pe_callTy call_int1 (by rfl) (g_int T) PyProof.Rows.boot_int (pa_cons (pe_dget hu (pv 0) pe_str (fun _ _ => rfl)) pa_nil)) (pv 1)))
        (pss_cons (ps_dput hu (pv 0) pe_str (pe_op op_fdiv (pe_dget hu (pv 0) pe_str (fun _ _ => rfl)) (pv 1)) rfl)
        (pss_one (ps_ret (pv 3)))))
        pss_nil)
    (pss_cons (ps_set (i := 4) sc_law_draw.nd rfl (Or.inl rfl) (pe_op op_mod (pe_callTy call_int1 (by rfl) (g_int T) PyProof.Rows.boot_int (pa_cons (pe_op op_add (pe_op op_add (pe_op op_mul (pe_dget hu (pv 0) pe_str (fun _ _ => rfl)) pe_int) (pe_op op_mul (pe_dget hu (pv 0) pe_str (fun _ _ => rfl)) pe_int)) pe_int) pa_nil)) pe_int))
    (pss_cons (ps_set (i := 4) sc_law_draw.nd rfl (Or.inl rfl) (pe_op op_mod (pe_callTy call_int1 (by rfl) (g_int T) PyProof.Rows.boot_int (pa_cons (pe_op op_add (pe_op op_add (pe_op op_mul (pv 4) (pv 4)) (pe_op op_mul pe_int (pv 4))) (pe_dget hu (pv 0) pe_str (fun _ _ => rfl))) pa_nil)) pe_int))
    (pss_cons (ps_dput hu (pv 0) pe_str (pe_op op_mod (pe_callTy call_int1 (by rfl) (g_int T) PyProof.Rows.boot_int (pa_cons (pe_op op_add (pe_op op_mul (pv 4) pe_int) pe_int) pa_nil)) pe_int) rfl)
    (pss_one (ps_ret (pe_op op_mod (pe_callTy call_int1 (by rfl) (g_int T) PyProof.Rows.boot_int (pa_cons (pe_op op_fdiv (pv 4) pe_int) pa_nil)) (pv 1))))))))), ?_⟩
  -- pen["count"] = pen["count"] + 1
  refine rd_pen (i := 0) rfl hp pen_count ⟨_, _, rfl, rfl, wr_pen (i := 0) rfl hp penL_len ?_⟩
  rw [put_count]
  have hp1 : upd H p (.dK (penL c a d (n + 1) f)) p = some (.dK (penL c a d (n + 1) f)) := upd_same
  have hc1 : upd H p (.dK (penL c a d (n + 1) f)) c = some (.lst (ns.map V.int)) := by rw [upd_ne npc.symm]; exact hc
  have b1 : But p H (upd H p (.dK (penL c a d (n + 1) f))) := But.set
  generalize upd H p (.dK (penL c a d (n + 1) f)) = H1 at hp1 hc1 b1 ⊢
  refine ⟨fun σ H2 => ∃ (v : Option V) (a' d' f' : Int), σ = [some (.ref p), some (.int m), v, none, none] ∧ H2 p = some (.dK (penL c a' d' (n + 1) f')) ∧ H2 c = some (.lst (ns.map V.int)) ∧ But p H H2 ∧ 0 ≤ a' ∧ 0 ≤ d' ∧ 0 ≤ f' ∧ f' < 2147483648, ?_, ?_⟩
  · -- the next cell
    refine rd_pen (i := 0) rfl hp1 pen_digits ⟨rfl, _, rfl, ?_⟩
    refine ite2 (fun _ => ?_) (fun _ => iteF ⟨none, a, d, f, rfl, hp1, hc1, b1, ha, hd, hf, hf2⟩)
    refine rd_pen (i := 0) rfl hp1 pen_at (rd_pen (i := 0) rfl hp1 pen_cells ⟨c, _, rfl, .inl (SqL.of hc1), _, _, rfl, rfl, _, rfl, ?_⟩)
    refine ite2 (fun ht => ?_) (fun _ => ⟨none, a, d, f, rfl, hp1, hc1, b1, ha, hd, hf, hf2⟩)
    have hlt : a < ((ns.map V.int).length : Int) := of_decide_eq_true ht
    rw [List.length_map] at hlt
    obtain ⟨z, hz⟩ : ∃ z, ns[a.toNat]? = some z := ⟨_, List.getElem?_eq_getElem (by omega : a.toNat < ns.length)⟩
    have hat : atI (ns.map V.int) a = some (.int z) := at_of (j := a.toNat) (by omega) (by rw [List.getElem?_map, hz]; rfl)
    refine rd_pen (i := 0) rfl hp1 pen_cells (rd_pen (i := 0) rfl hp1 pen_at ⟨c, _, a, _, rfl, rfl, SqL.of hc1, hat, ?_⟩)
    refine rd_pen (i := 0) rfl hp1 pen_at ⟨_, _, rfl, rfl, wr_pen (i := 0) rfl hp1 penL_len ?_⟩
    rw [put_at]
    have hp2 : upd H1 p (.dK (penL c (a + 1) d (n + 1) f)) p = some (.dK (penL c (a + 1) d (n + 1) f)) := upd_same
    have hc2 : upd H1 p (.dK (penL c (a + 1) d (n + 1) f)) c = some (.lst (ns.map V.int)) := by rw [upd_ne npc.symm]; exact hc1
    have b2 : But p H (upd H1 p (.dK (penL c (a + 1) d (n + 1) f))) := b1.trans But.set
    generalize upd H1 p (.dK (penL c (a + 1) d (n + 1) f)) = H2 at hp2 hc2 b2 ⊢
    refine ⟨_, rfl, _, _, rfl, rfl, ⟨by decide, by decide, by decide⟩, _, _, rfl, rfl, _, rfl, ?_⟩
    refine ite2 (fun hg => ?_) (fun _ => ?_)
    · have hg' : ((10 : Int) ^ (18 : Int).toNat) ≤ z := of_decide_eq_true hg
      refine ⟨_, rfl, _, _, rfl, rfl, ⟨by decide, by decide, by decide⟩, _, _, rfl, rfl, wr_pen (i := 0) rfl hp2 penL_len ?_⟩
      rw [put_digits]
      exact ⟨_, _, _, _, rfl, upd_same, by rw [upd_ne npc.symm]; exact hc2, b2.trans But.set, by omega, by omega, hf, hf2⟩
    · refine rd_pen (i := 0) rfl hp2 pen_fold ⟨_, _, rfl, rfl, .inr ⟨by decide, by decide⟩, _, rfl, _, _, rfl, rfl, .inl ⟨_, rfl, _, _, rfl, rfl, (by show (0 : Int) < 2147483587; decide), wr_pen (i := 0) rfl hp2 penL_len ?_⟩⟩
      rw [put_fold]
      have h2 := Int.emod_nonneg (f * 69069 + z) (show (2147483587 : Int) ≠ 0 by decide)
      have h3 := Int.emod_lt_of_pos (f * 69069 + z) (show (0 : Int) < 2147483587 by decide)
      exact ⟨_, _, _, _, rfl, upd_same, by rw [upd_ne npc.symm]; exact hc2, b2.trans But.set, by omega, hd, h2, by omega⟩
  · rintro σ H2 ⟨v, a', d', f', rfl, hp2, hc2, b2, ha', hd', hf', hf2'⟩
    refine rd_pen (i := 0) rfl hp2 pen_digits ⟨_, _, rfl, rfl, _, rfl, ?_⟩
    refine ite2 (fun hg => ?_) (fun _ => ?_)
    · -- a digit of the cell
      refine rd_pen (i := 0) rfl hp2 pen_digits (.inl ⟨_, rfl, _, rfl, _, _, rfl, rfl, hm, ?_⟩)
      refine rd_pen (i := 0) rfl hp2 pen_digits ⟨_, rfl, _, _, rfl, rfl, ⟨hm, hm2⟩, wr_pen (i := 0) rfl hp2 penL_len ?_⟩
      rw [put_digits]
      refine ⟨_, rfl, ?_⟩
      exact k _ _ (Int.emod_nonneg _ (by omega)) (Int.emod_lt_of_pos _ hm) ⟨ns, a', _, _, f', upd_same, by rw [upd_ne npc.symm]; exact hc2, hl, ha', Int.ediv_nonneg hd' (by omega), hf', hf2'⟩ (b2.trans But.set)
    · -- mixed
      refine rd_pen (i := 0) rfl hp2 pen_fold ⟨_, _, rfl, rfl, .inr ⟨by decide, by decide⟩, rd_pen (i := 0) rfl hp2 pen_count ⟨_, _, rfl, rfl, .inr ⟨by decide, by decide⟩, _, _, rfl, rfl, _, _, rfl, rfl, .inl ⟨_, rfl, _, _, rfl, rfl, (by show (0 : Int) < 2147483647; decide), ?_⟩⟩⟩
      have q1 := fold_ok (f' * 48271 + (n + 1) * 7919 + 13)
      generalize (f' * 48271 + (n + 1) * 7919 + 13) % 2147483647 = b at q1 ⊢
      refine ⟨_, rfl, _, rfl, _, _, rfl, rfl, .inl ⟨by omega, by omega⟩, _, rfl, _, _, rfl, rfl, .inl ⟨by decide, by decide⟩, _, _, rfl, rfl, rd_pen (i := 0) rfl hp2 pen_count ⟨_, _, rfl, rfl, .inl ⟨_, rfl, _, _, rfl, rfl, (by show (0 : Int) < 2147483629; decide), ?_⟩⟩⟩
      have q2 := Int.emod_nonneg (b * b + 31 * b + (n + 1)) (show (2147483629 : Int) ≠ 0 by decide)
      have q3 := Int.emod_lt_of_pos (b * b + 31 * b + (n + 1)) (show (0 : Int) < 2147483629 by decide)
      generalize (b * b + 31 * b + (n + 1)) % 2147483629 = b2' at q2 q3 ⊢
      refine ⟨_, rfl, _, _, rfl, rfl, .inr ⟨by decide, by decide⟩, _, _, rfl, rfl, .inl ⟨_, rfl, _, _, rfl, rfl, (by show (0 : Int) < 2147483647; decide), wr_pen (i := 0) rfl hp2 penL_len ?_⟩⟩
      rw [put_fold]
      refine ⟨_, rfl, _, _, rfl, rfl, ⟨by decide, by decide⟩, .inl ⟨_, rfl, _, rfl, _, _, rfl, rfl, hm, ?_⟩⟩
      exact k _ _ (Int.emod_nonneg _ (by omega)) (Int.emod_lt_of_pos _ hm) ⟨ns, a', d', _, _, upd_same, by rw [upd_ne npc.symm]; exact hc2, hl, ha', hd', (fold_ok _).1, (fold_ok _).2⟩ (b2.trans But.set)
end
end K48
namespace K48
open PySem PySem.Spec PyProof.Rows L2 Tc
section
variable {P : Program} {w : World} {K : PySem.W.Frag} {mg : Str → Option Value} {base : Heap}
theorem c_law_pick (T : TX K mg) : Callee P w K mg base CX0 2 "_law_pick" ["pen", "some"] (spPickC K) := by
  obtain ⟨fd, F⟩ := F_law_pick T
  refine callee_mk F (g_law_pick T) (fun _ _ _ _ _ _ us hl => match us, hl with | [_, _], _ => rfl) ?_
  refine F.ok sc_law_pick (fun vs H Q E h => by obtain ⟨p, c, l, xs, rfl, _⟩ := h; rfl) fun cdv A outer s H vs Q E hr h => ?_
  obtain ⟨p, c, l, xs, rfl, nl, hp, hl, h0, h1, k⟩ := h
  refine ⟨_, pss_one (ps_ret (pe_ix ix_seq (pv 1) (pe_f (c_law_draw T) hr (pa_cons (pv 0) (pa_cons (pe_callB call_len_seq (by rfl) (g_len T) PySem.boot_len (pa_cons (pv 1) pa_nil)) pa_nil))) (fun _ _ => rfl))), ?_⟩
  refine ⟨_, rfl, _, rfl, _, rfl, l, xs, rfl, hl, p, c, (xs.length : Int), rfl, hp, by omega, by omega, fun r H' h2 h3 hp' b => ?_⟩
  obtain ⟨x, hx⟩ : ∃ x, xs[r.toNat]? = some x := ⟨_, List.getElem?_eq_getElem (by omega : r.toNat < xs.length)⟩
  have hat : atI xs r = some x := at_of (j := r.toNat) (by omega) hx
  rcases hl with hl | hl
  · exact .inl ⟨l, xs, r, x, rfl, rfl, b.seq nl hl, hat, k _ _ _ hx hp' b⟩
  · exact .inr (.inl ⟨l, xs, r, x, rfl, rfl, b.tup nl hl, hat, k _ _ _ hx hp' b⟩)
end
end K48
namespace K48
open PySem PySem.Spec PyProof.Rows L2 Tc
section
variable {P : Program} {w : World} {K : PySem.W.Frag} {mg : Str → Option Value} {base : Heap}
theorem i_BadNumber (T : TX K mg) : InitAt P w K mg base "BadNumber" ["self", "what", "number"] (spInit K (He.ga K "BadNumber") 2 fun xs => [("number", xs.getD 1 .non), ("what", xs.getD 0 .non)]) := by
  obtain ⟨fd, F⟩ := F_BadNumber_init T
  obtain ⟨ec, ei, et⟩ := T.each _ (List.mem_of_getElem? (i := 0) rfl)
  refine ⟨⟨fd, ?_, F.binds (ps := ["self", "what", "number"]) (fun _ _ _ _ _ _ us hl => match us, hl with | [_, _, _], _ => rfl)⟩, ec.oex, ei, et, g_BadNumber T⟩
  refine F.ok sc_BadNumber_init (fun vs H Q E h => by obtain ⟨a, xs, rfl, hl, _⟩ := h; exact congrArg Nat.succ hl) fun cdv A outer s H vs Q E hr h => ?_
  obtain ⟨a, xs, rfl, hl, ea, oe, k⟩ := h
  match xs, hl with
  | [x0, x1], _ =>
  refine ⟨_, pss_cons (ps_expr (pe_basei (by rfl) (g_TreeError T) T.base (pa_cons (pv 0) (pa_cons pe_str pa_nil)))) (pss_cons (ps_ost (pv 0) (pv 1)) (pss_cons (ps_ost (pv 0) (pv 2)) (pss_nil))), ?_⟩
  refine ⟨_, rfl, a, _, [_], rfl, by decide, oe, ea, ?_⟩
  refine ⟨_, rfl, _, rfl, a, _, rfl, oe, ec.none_ "what" (by simp), .inl ⟨ea, fun d nd nda => ?_⟩⟩
  have b1 : But a H (upd (upd H d (exd d [("what", x0)])) a (exo a (He.ga K "BadNumber") (some d))) := (But.new nd).trans But.set
  have e1 : upd (upd H d (exd d [("what", x0)])) a (exo a (He.ga K "BadNumber") (some d)) a = some (exo a (He.ga K "BadNumber") (some d)) := upd_same
  have e2 : upd (upd H d (exd d [("what", x0)])) a (exo a (He.ga K "BadNumber") (some d)) d = some (exd d [("what", x0)]) := by rw [upd_ne nda, upd_same]
  generalize upd (upd H d (exd d [("what", x0)])) a (exo a (He.ga K "BadNumber") (some d)) = H1 at b1 e1 e2 ⊢
  refine ⟨_, rfl, _, rfl, a, _, rfl, oe, ec.none_ "number" (by simp), .inr ⟨d, _, e1, e2, by simp, ?_⟩⟩
  have b2 : But a H (upd H1 d (exd d [("number", x1), ("what", x0)])) := fun b o nb eb => by rw [upd_ne (ne_of_none eb nd)]; exact b1 b o nb eb
  replace e1 : upd H1 d (exd d [("number", x1), ("what", x0)]) a = some (exo a (He.ga K "BadNumber") (some d)) := by rw [upd_ne nda.symm]; exact e1
  replace e2 : upd H1 d (exd d [("number", x1), ("what", x0)]) d = some (exd d [("number", x1), ("what", x0)]) := upd_same
  generalize upd H1 d (exd d [("number", x1), ("what", x0)]) = H2 at b2 e1 e2 ⊢
  exact k d _ nd e1 e2 b2
theorem i_BadRow (T : TX K mg) : InitAt P w K mg base "BadRow" ["self", "what", "row"] (spInit K (He.ga K "BadRow") 2 fun xs => [("row", xs.getD 1 .non), ("what", xs.getD 0 .non)]) := by
  obtain ⟨fd, F⟩ := F_BadRow_init T
  obtain ⟨ec, ei, et⟩ := T.each _ (List.mem_of_getElem? (i := 1) rfl)
  refine ⟨⟨fd, ?_, F.binds (ps := ["self", "what", "row"]) (fun _ _ _ _ _ _ us hl => match us, hl with | [_, _, _], _ => rfl)⟩, ec.oex, ei, et, g_BadRow T⟩
  refine F.ok sc_BadRow_init (fun vs H Q E h => by obtain ⟨a, xs, rfl, hl, _⟩ := h; exact congrArg Nat.succ hl) fun cdv A outer s H vs Q E hr h => ?_
  obtain ⟨a, xs, rfl, hl, ea, oe, k⟩ := h
  match xs, hl with
  | [x0, x1], _ =>
  refine ⟨_, pss_cons (ps_expr (pe_basei (by rfl) (g_TreeError T) T.base (pa_cons (pv 0) (pa_cons pe_str pa_nil)))) (pss_cons (ps_ost (pv 0) (pv 1)) (pss_cons (ps_ost (pv 0) (pv 2)) (pss_nil))), ?_⟩
  refine ⟨_, rfl, a, _, [_], rfl, by decide, oe, ea, ?_⟩
  refine ⟨_, rfl, _, rfl, a, _, rfl, oe, ec.none_ "what" (by simp), .inl ⟨ea, fun d nd nda => ?_⟩⟩
  have b1 : But a H (upd (upd H d (exd d [("what", x0)])) a (exo a (He.ga K "BadRow") (some d))) := (But.new nd).trans But.set
  have e1 : upd (upd H d (exd d [("what", x0)])) a (exo a (He.ga K "BadRow") (some d)) a = some (exo a (He.ga K "BadRow") (some d)) := upd_same
  have e2 : upd (upd H d (exd d [("what", x0)])) a (exo a (He.ga K "BadRow") (some d)) d = some (exd d [("what", x0)]) := by rw [upd_ne nda, upd_same]
  generalize upd (upd H d (exd d [("what", x0)])) a (exo a (He.ga K "BadRow") (some d)) = H1 at b1 e1 e2 ⊢
  refine ⟨_, rfl, _, rfl, a, _, rfl, oe, ec.none_ "row" (by simp), .inr ⟨d, _, e1, e2, by simp, ?_⟩⟩
  have b2 : But a H (upd H1 d (exd d [("row", x1), ("what", x0)])) := fun b o nb eb => by rw [upd_ne (ne_of_none eb nd)]; exact b1 b o nb eb
  replace e1 : upd H1 d (exd d [("row", x1), ("what", x0)]) a = some (exo a (He.ga K "BadRow") (some d)) := by rw [upd_ne nda.symm]; exact e1
  replace e2 : upd H1 d (exd d [("row", x1), ("what", x0)]) d = some (exd d [("row", x1), ("what", x0)]) := upd_same
  generalize upd H1 d (exd d [("row", x1), ("what", x0)]) = H2 at b2 e1 e2 ⊢
  exact k d _ nd e1 e2 b2
theorem i_Unlike (T : TX K mg) : InitAt P w K mg base "Unlike" ["self", "what"] (spInit K (He.ga K "Unlike") 1 fun xs => [("what", xs.getD 0 .non)]) := by
  obtain ⟨fd, F⟩ := F_Unlike_init T
  obtain ⟨ec, ei, et⟩ := T.each _ (List.mem_of_getElem? (i := 2) rfl)
  refine ⟨⟨fd, ?_, F.binds (ps := ["self", "what"]) (fun _ _ _ _ _ _ us hl => match us, hl with | [_, _], _ => rfl)⟩, ec.oex, ei, et, g_Unlike T⟩
  refine F.ok sc_Unlike_init (fun vs H Q E h => by obtain ⟨a, xs, rfl, hl, _⟩ := h; exact congrArg Nat.succ hl) fun cdv A outer s H vs Q E hr h => ?_
  obtain ⟨a, xs, rfl, hl, ea, oe, k⟩ := h
  match xs, hl with
  | [x0], _ =>
  refine ⟨_, pss_cons (ps_expr (pe_basei (by rfl) (g_TreeError T) T.base (pa_cons (pv 0) (pa_cons pe_str pa_nil)))) (pss_cons (ps_ost (pv 0) (pv 1)) (pss_nil)), ?_⟩
  refine ⟨_, rfl, a, _, [_], rfl, by decide, oe, ea, ?_⟩
  refine ⟨_, rfl, _, rfl, a, _, rfl, oe, ec.none_ "what" (by simp), .inl ⟨ea, fun d nd nda => ?_⟩⟩
  have b1 : But a H (upd (upd H d (exd d [("what", x0)])) a (exo a (He.ga K "Unlike") (some d))) := (But.new nd).trans But.set
  have e1 : upd (upd H d (exd d [("what", x0)])) a (exo a (He.ga K "Unlike") (some d)) a = some (exo a (He.ga K "Unlike") (some d)) := upd_same
  have e2 : upd (upd H d (exd d [("what", x0)])) a (exo a (He.ga K "Unlike") (some d)) d = some (exd d [("what", x0)]) := by rw [upd_ne nda, upd_same]
  generalize upd (upd H d (exd d [("what", x0)])) a (exo a (He.ga K "Unlike") (some d)) = H1 at b1 e1 e2 ⊢
  exact k d _ nd e1 e2 b1
theorem i_TooMany (T : TX K mg) : InitAt P w K mg base "TooMany" ["self", "what", "many", "limit"] (spInit K (He.ga K "TooMany") 3 fun xs => [("limit", xs.getD 2 .non), ("many", xs.getD 1 .non), ("what", xs.getD 0 .non)]) := by
  obtain ⟨fd, F⟩ := F_TooMany_init T
  obtain ⟨ec, ei, et⟩ := T.each _ (List.mem_of_getElem? (i := 3) rfl)
  refine ⟨⟨fd, ?_, F.binds (ps := ["self", "what", "many", "limit"]) (fun _ _ _ _ _ _ us hl => match us, hl with | [_, _, _, _], _ => rfl)⟩, ec.oex, ei, et, g_TooMany T⟩
  refine F.ok sc_TooMany_init (fun vs H Q E h => by obtain ⟨a, xs, rfl, hl, _⟩ := h; exact congrArg Nat.succ hl) fun cdv A outer s H vs Q E hr h => ?_
  obtain ⟨a, xs, rfl, hl, ea, oe, k⟩ := h
  match xs, hl with
  | [x0, x1, x2], _ =>
  refine ⟨_, pss_cons (ps_expr (pe_basei (by rfl) (g_TreeError T) T.base (pa_cons (pv 0) (pa_cons pe_str pa_nil)))) (pss_cons (ps_ost (pv 0) (pv 1)) (pss_cons (ps_ost (pv 0) (pv 2)) (pss_cons (ps_ost (pv 0) (pv 3)) (pss_nil)))), ?_⟩
  refine ⟨_, rfl, a, _, [_], rfl, by decide, oe, ea, ?_⟩
  refine ⟨_, rfl, _, rfl, a, _, rfl, oe, ec.none_ "what" (by simp), .inl ⟨ea, fun d nd nda => ?_⟩⟩
  have b1 : But a H (upd (upd H d (exd d [("what", x0)])) a (exo a (He.ga K "TooMany") (some d))) := (But.new nd).trans But.set
  have e1 : upd (upd H d (exd d [("what", x0)])) a (exo a (He.ga K "TooMany") (some d)) a = some (exo a (He.ga K "TooMany") (some d)) := upd_same
  have e2 : upd (upd H d (exd d [("what", x0)])) a (exo a (He.ga K "TooMany") (some d)) d = some (exd d [("what", x0)]) := by rw [upd_ne nda, upd_same]
  generalize upd (upd H d (exd d [("what", x0)])) a (exo a (He.ga K "TooMany") (some d)) = H1 at b1 e1 e2 ⊢
  refine ⟨_, rfl, _, rfl, a, _, rfl, oe, ec.none_ "many" (by simp), .inr ⟨d, _, e1, e2, by simp, ?_⟩⟩
  have b2 : But a H (upd H1 d (exd d [("many", x1), ("what", x0)])) := fun b o nb eb => by rw [upd_ne (ne_of_none eb nd)]; exact b1 b o nb eb
  replace e1 : upd H1 d (exd d [("many", x1), ("what", x0)]) a = some (exo a (He.ga K "TooMany") (some d)) := by rw [upd_ne nda.symm]; exact e1
  replace e2 : upd H1 d (exd d [("many", x1), ("what", x0)]) d = some (exd d [("many", x1), ("what", x0)]) := upd_same
  generalize upd H1 d (exd d [("many", x1), ("what", x0)]) = H2 at b2 e1 e2 ⊢
  refine ⟨_, rfl, _, rfl, a, _, rfl, oe, ec.none_ "limit" (by simp), .inr ⟨d, _, e1, e2, by simp, ?_⟩⟩
  have b3 : But a H (upd H2 d (exd d [("limit", x2), ("many", x1), ("what", x0)])) := fun b o nb eb => by rw [upd_ne (ne_of_none eb nd)]; exact b2 b o nb eb
  replace e1 : upd H2 d (exd d [("limit", x2), ("many", x1), ("what", x0)]) a = some (exo a (He.ga K "TooMany") (some d)) := by rw [upd_ne nda.symm]; exact e1
  replace e2 : upd H2 d (exd d [("limit", x2), ("many", x1), ("what", x0)]) d = some (exd d [("limit", x2), ("many", x1), ("what", x0)]) := upd_same
  generalize upd H2 d (exd d [("limit", x2), ("many", x1), ("what", x0)]) = H3 at b3 e1 e2 ⊢
  exact k d _ nd e1 e2 b3
end
end K48
namespace K48
open PySem PySem.Spec PyProof.Rows L2 Tc
/-! _law_is -/
def spIsN (K : PySem.W.Frag) : Nat → Sp
  | 0 => fun _ _ _ _ => False
  | n + 1 => spIs K n
section
variable {P : Program} {w : World} {K : PySem.W.Frag} {mg : Str → Option Value} {base : Heap}
theorem c_law_is (T : TX K mg) : ∀ n : Nat, Callee P w K mg base CX0 n "_law_is" ["told", "due"] (spIsN K n)
  | 0 => by
    obtain ⟨fd, F⟩ := F_law_is T
    exact callee_mk F (g_law_is T) (fun _ _ _ _ _ _ us hl => match us, hl with | [_, _], _ => rfl) ⟨fun _ _ _ _ h => h.elim, fun _ _ _ _ _ _ _ _ _ _ _ _ _ h => h.elim⟩
  | n + 1 => by
    have ih := c_law_is T n
    obtain ⟨fd, F⟩ := F_law_is T
    refine callee_mk F (g_law_is T) (fun _ _ _ _ _ _ us hl => match us, hl with | [_, _], _ => rfl) ?_
    refine F.ok sc_law_is (fun vs H Q E h => by obtain ⟨a, b, d, rfl, _⟩ := h; rfl) fun cdv A outer s H vs Q E hr h => ?_
    obtain ⟨a, b, d, rfl, ha, hb, hp, hn, h60, k⟩ := h
    have hu := hr.units
    refine ⟨_, pss_cons (ps_if (pt_val (pe_callB call_isi (by rfl) (g_isinstance T) PyProof.Rows.boot_isinstance (pa_cons (pv 1) (pa_cons (pe_bltn (v := .ty "tuple") (by rfl) (g_tuple T) PyProof.Rows.boot_tuple rfl) pa_nil))))
        (pss_cons (ps_if (pw_or (pt_not (pt_val (pe_callB call_isi (by rfl) (g_isinstance T) PyProof.Rows.boot_isinstance (pa_cons (pv 0) (pa_cons (pe_bltn (v := .ty "tuple") (by rfl) (g_tuple T) PyProof.Rows.boot_tuple rfl) pa_nil)))))
            (pw_or1 (pt_cmpR op_ne (pe_callB call_len_seq (by rfl) (g_len T) PySem.boot_len (pa_cons (pv 0) pa_nil)) (pe_callB call_len_seq (by rfl) (g_len T) PySem.boot_len (pa_cons (pv 1) pa_nil)) (nomark _)))).pt (pss_one (ps_ret pe_bl)) pss_nil)
        (pss_one (ps_ret (pe_cmpR (op_eqD hu) (pe_lc (own := [("at", 2)]) (g := gName 2) rfl sc_law_is.nd (pi_range1 (by rfl) (g_range T) (pa_cons (pe_callB call_len_seq (by rfl) (g_len T) PySem.boot_len (pa_cons (pv 1) pa_nil)) pa_nil))
            (blkOk_by (N := ["told", "due", "at"]) (sc := defScope s_law_is) (by decide +kernel)) (fun _ _ _ _ _ => pg_name (i := 2) sc_law_is.nd rfl (Or.inl rfl))
            (fun _ _ _ _ _ => pts_one (pt_not (pt_val (pe_f ih hr (pa_cons (pe_ix (r := rIx K) ix_seq (pv 0) (pv 2) (fun _ _ => rfl)) (pa_cons (pe_ix (r := rIx K) ix_seq (pv 1) (pv 2) (fun _ _ => rfl)) pa_nil)) (Nat.le_refl _)))))
            (fun _ _ _ _ _ => pv 2)) (pe_lst pa_nil) (nomark _))))) pss_nil)
      (pss_cons (ps_if (pt_cmpR op_isN (pv 1) pe_non (nomark _)) (pss_one (ps_ret (pe_cmpR op_isN (pv 0) pe_non (nomark _)))) pss_nil)
      (pss_cons (ps_if (pt_cmpR op_isTF (pv 1) pe_bl (nomark _)) (pss_one (ps_ret (pe_cmpR op_isTF (pv 0) pe_bl (nomark _)))) pss_nil)
      (pss_cons (ps_if (pt_cmpR op_isTF (pv 1) pe_bl (nomark _)) (pss_one (ps_ret (pe_cmpR op_isTF (pv 0) pe_bl (nomark _)))) pss_nil)
      (pss_cons (ps_if (pt_val (pe_callB call_isi (by rfl) (g_isinstance T) PyProof.Rows.boot_isinstance (pa_cons (pv 1) (pa_cons (pe_bltn (v := .ty "str") (by rfl) (g_str T) PyProof.Rows.boot_str rfl) pa_nil))))
        (pss_one (ps_ret (pe_and (pe_callB call_isi (by rfl) (g_isinstance T) PyProof.Rows.boot_isinstance (pa_cons (pv 0) (pa_cons (pe_bltn (v := .ty "str") (by rfl) (g_str T) PyProof.Rows.boot_str rfl) pa_nil))) (pe_one (pe_cmpR op_eq (pv 0) (pv 1) (nomark _)))))) pss_nil)
      (pss_one (ps_ret (pe_and (pe_callB call_isi (by rfl) (g_isinstance T) PyProof.Rows.boot_isinstance (pa_cons (pv 0) (pa_cons (pe_bltn (v := .ty "int") (by rfl) (g_int T) PyProof.Rows.boot_int rfl) pa_nil)))
        (pe_and (pe_not (pe_callB call_isi (by rfl) (g_isinstance T) PyProof.Rows.boot_isinstance (pa_cons (pv 0) (pa_cons (pe_bltn (v := .ty "bool") (by rfl) (g_bool T) PyProof.Rows.boot_bool rfl) pa_nil))))
          (pe_one (pe_cmpR op_eq (pv 0) (pv 1) (nomark _))))))))))), ?_⟩
    refine ⟨_, rfl, _, .ty "tuple", _, _, _, rfl, .ty _, ty_dp hb, kit_tuple hp, _, rfl, ?_⟩
    cases ha with
    | non =>
      cases hb
      exact iteF ⟨_, rfl, rfl, _, rfl, if_yes (by simp) ⟨_, rfl, rfl, bl_same (by simp) (k H (Same.refl H))⟩⟩
    | bl c =>
      cases hb
      refine iteF ⟨_, rfl, rfl, _, rfl, if_no (by simp) ?_⟩
      cases c with
      | true => exact ⟨_, rfl, _, rfl, _, rfl, if_yes (by simp) ⟨_, rfl, _, rfl, bl_same (by simp) (k H (Same.refl H))⟩⟩
      | false => exact ⟨_, rfl, _, rfl, _, rfl, if_no (by simp) ⟨_, rfl, _, rfl, _, rfl, if_yes (by simp) ⟨_, rfl, _, rfl, bl_same (by simp) (k H (Same.refl H))⟩⟩⟩
    | int i =>
      cases hb
      refine iteF ⟨_, rfl, rfl, _, rfl, if_no (by simp) ⟨_, rfl, _, rfl, _, rfl, if_no (by simp) ⟨_, rfl, _, rfl, _, rfl, if_no (by simp) ?_⟩⟩⟩
      refine ⟨_, rfl, _, .ty "str", _, _, _, rfl, .ty _, ty_dp (.int i), kit_str hp, _, rfl, iteF ?_⟩
      refine ⟨_, rfl, _, .ty "int", _, _, _, rfl, .ty _, ty_dp (.int i), kit_int hp, _, rfl, iteT ?_⟩
      exact ⟨_, rfl, _, .ty "bool", _, _, _, rfl, .ty _, ty_dp (.int i), kit_bool hp, _, rfl, _, rfl, iteT ⟨_, rfl, _, rfl, rfl, bl_same (by simp) (k H (Same.refl H))⟩⟩
    | str x =>
      cases hb
      refine iteF ⟨_, rfl, rfl, _, rfl, if_no (by simp) ⟨_, rfl, _, rfl, _, rfl, if_no (by simp) ⟨_, rfl, _, rfl, _, rfl, if_no (by simp) ?_⟩⟩⟩
      refine ⟨_, rfl, _, .ty "str", _, _, _, rfl, .ty _, ty_dp (.str x), kit_str hp, _, rfl, iteT ?_⟩
      exact ⟨_, rfl, _, .ty "str", _, _, _, rfl, .ty _, ty_dp (.str x), kit_str hp, _, rfl, iteT ⟨_, rfl, _, rfl, rfl, bl_same (by simp) (k H (Same.refl H))⟩⟩
    | lst _ _ => simp [Tc.plain] at hp
    | @tup p xs ds qx ax =>
      cases hb with
      | @tup q ys _ qy ay =>
        obtain ⟨hl, hp2⟩ := plain_tup hp
        have lx := dps_len ax
        have ly := dps_len ay
        simp only [PyData.depth] at hn h60
        refine iteT ⟨_, rfl, _, .ty "tuple", _, _, _, rfl, .ty _, ty_dp (.tup qx ax), kit_tuple hp, _, rfl, iteF ?_⟩
        refine ⟨_, rfl, p, xs, rfl, .inr qx, _, rfl, q, ys, rfl, .inr qy, rfl, _, rfl, if_no (by rw [lx, ly]; simp) ?_⟩
        refine ⟨_, rfl, q, ys, rfl, .inr qy, (ys.length : Int), rfl, by omega, by omega, fun D nD => ?_⟩
        refine lc_range (fun _ H1 => Same H H1 ∧ H1 D = some (.lst [])) ⟨Same.new nD, upd_same⟩ ?_ ?_
        · rintro i H1 hi ⟨s1, eD⟩
          refine ⟨rfl, ?_⟩
          have hi2 : i < ys.length := by simpa using hi
          have hx : xs[i]? = some xs[i] := List.getElem?_eq_getElem (by omega)
          have hy : ys[i]? = some ys[i] := List.getElem?_eq_getElem (by omega)
          obtain ⟨d1, e1, dx⟩ := dps_get ax hx
          obtain ⟨d2, e2, dy⟩ := dps_get ay hy
          rw [e1] at e2
          cases e2
          have g1 : LamX.ExtN H H1 := .of s1
          refine ⟨_, rfl, _, rfl, .inr (.inl ⟨p, xs, _, xs[i], rfl, rfl, grow_tup g1 qx, at_of (j := i) (by omega) hx, _, rfl, _, rfl, .inr (.inl ⟨q, ys, _, ys[i], rfl, rfl, grow_tup g1 qy, at_of (j := i) (by omega) hy, ?_⟩)⟩)⟩
          have dd := depth_get (n := PyData.depthAll ds) (Nat.le_refl _) e1
          obtain ⟨m, rfl⟩ : ∃ m, n = m + 1 := ⟨n - 1, by omega⟩
          exact ⟨_, _, d1, rfl, grow_dp g1 _ dx, grow_dp g1 _ dy, plain_get hp2 e1, by omega, by omega, fun H2 s2 => ⟨true, rfl, iteF ⟨s1.trans s2, s2 _ _ eD⟩⟩⟩
        · rintro H1 ⟨s1, eD⟩
          exact ⟨Nat.zero_le _, fun r nr => ⟨.list [], .list [], .lst (SqL.of ((Same.new nr) _ _ eD)) .nil, .lst (SqL.of upd_same) .nil, by decide +kernel, by decide +kernel, bl_same (by decide +kernel) (k _ (s1.trans (Same.new nr)))⟩⟩
end
end K48
namespace K48
open PySem PySem.Spec PyProof.Rows L2 Tc
/-! _law_caught -/
def ekMany : Nat := 4
def ek : Nat → Str
  | 0 => "BadNumber"
  | 1 => "BadRow"
  | 2 => "TooMany"
  | _ => "Unlike"
/-- what is told of an error of the kind i with the fields fs -/
def Tells : Nat → List (Str × V) → List V → Prop
  | 0, fs, ws => ∃ a0 a1 : V, fs.lookup ("what" : Str) = some a0 ∧ fs.lookup ("number" : Str) = some a1 ∧ ws = [.str "number", a0, a1]
  | 1, fs, ws => ∃ a0 a1 : V, fs.lookup ("what" : Str) = some a0 ∧ fs.lookup ("row" : Str) = some a1 ∧ ws = [.str "row", a0, a1]
  | 2, fs, ws => ∃ a0 a1 a2 : V, fs.lookup ("what" : Str) = some a0 ∧ fs.lookup ("many" : Str) = some a1 ∧ fs.lookup ("limit" : Str) = some a2 ∧ ws = [.str "many", a0, a1, a2]
  | _, fs, ws => ∃ a0 : V, fs.lookup ("what" : Str) = some a0 ∧ ws = [.str "unlike", a0]
def Does (tl : ActT) (H : Hp) (E1 : XK) (Q1 : VK) : Prop := ∀ (E' : XK) (Q' : VK), (∀ c d H', E1 c d H' → E' c d H') → (∀ v H', Q1 v H' → Q' v H') → tl E' H Q'
def spCaught (K : PySem.W.Frag) : (Addr → ActT → Prop) → Sp := fun O vs H Q _ => ∃ (f : Addr) (tl : ActT) (E1 : XK) (Q1 : VK), vs = [.ref f] ∧ O f tl ∧ Does tl H E1 Q1 ∧
  (∀ cls d H', E1 cls d H' → ∃ (i : Nat) (dd : Addr) (fs : List (Str × V)) (ws : List V), i < 4 ∧ cls = .ref (He.ga K (ek i)) ∧ d = some dd ∧ H' dd = some (.xd fs) ∧ Tells i fs ws ∧ ∀ t H2, H' t = none → Same H' H2 → H2 t = some (.tup ws) → Q (.ref t) H2) ∧
  ∀ v H', Q1 v H' → ∀ t H2, H' t = none → Same H' H2 → H2 t = some (.tup [.str "none"]) → Q (.ref t) H2
theorem ek_in {i : Nat} (h : i < 4) : ek i ∈ errs.map (·.1) := by
  match i, h with
  | 0, _ => decide
  | 1, _ => decide
  | 2, _ => decide
  | 3, _ => decide
  | j + 4, z => exact absurd z (by omega)
theorem ek_err {K : PySem.W.Frag} {mg : Str → Option Value} (T : TX K mg) {i : Nat} (h : i < 4) : ErrC K (He.ga K (ek i)) ["what", "number", "row", "many", "limit"] := by
  match i, h with
  | 0, _ => exact (T.each _ (List.mem_of_getElem? (i := 0) rfl)).1
  | 1, _ => exact (T.each _ (List.mem_of_getElem? (i := 1) rfl)).1
  | 2, _ => exact (T.each _ (List.mem_of_getElem? (i := 3) rfl)).1
  | 3, _ => exact (T.each _ (List.mem_of_getElem? (i := 2) rfl)).1
  | j + 4, z => exact absurd z (by omega)
section
variable {P : Program} {w : World} {K : PySem.W.Frag} {mg : Str → Option Value} {base : Heap}
theorem c_law_caught (T : TX K mg) (ka : Nat) : CalleeA P w K mg base CX0 AnyA (ka + 1) ka "_law_caught" ["action"] (spCaught K) := by
  obtain ⟨fd, F⟩ := F_law_caught T
  refine calleeA_mk F (g_law_caught T) (fun _ _ _ _ _ _ us hl => match us, hl with | [_], _ => rfl) ?_
  refine funA F sc_law_caught (fun O vs H Q E h => by obtain ⟨f, tl, E1, Q1, rfl, _⟩ := h; rfl) (fun O O' vs H Q E i h => by obtain ⟨f, tl, E1, Q1, e, o, r⟩ := h; exact ⟨f, tl, E1, Q1, e, i _ _ o, r⟩) fun cdv A outer s H vs Q E _ hr h => ?_
  obtain ⟨f, tl, E1, Q1, rfl, hO, hD, hX, hN⟩ := h
  refine ⟨_, pss_cons (ps_try_as (i := 1) (Wout := fun _ _ _ _ => False) (c := .ref (He.ga K "TreeError")) rfl rfl sc_law_caught.nd rfl rfl ⟨by rfl, by decide, .inl (g_TreeError T)⟩ takes0
      (fun W pn xe tk _ => pss_one (ps_expr (pe_acts (ka := ka) (i := 0) (O := fun g tl => Act P w K mg base outer s H ka g tl) hr rfl tk (pv 0) fun _ _ h => h)))
      (fun a oe cls d pn hz hf => pss_cons (ps_set (i := 2) sc_law_caught.nd rfl (Or.inl rfl) (pe_lst pa_nil))
        (pss_cons (ps_if (pt_val (pe_callB (r := rIsX K a cls d) (call_isX ⟨oe, List.mem_cons_self, hz, hf⟩) (by rfl) (g_isinstance T) PyProof.Rows.boot_isinstance (pa_cons (pv 1) (pa_cons (pe_glob (v := .ref (He.ga K "BadNumber")) (by rfl) (g_BadNumber T) rfl) pa_nil)))) (pss_one (ps_expr (pe_app (K := K) rfl (pv 2) (pa_cons (pe_tup (pa_cons pe_str (pa_cons (pe_fldK (K := K) (cls := cls) (d := d) rfl ⟨oe, List.mem_cons_self, hz, hf⟩ (pv 1)) (pa_cons (pe_fldK (K := K) (cls := cls) (d := d) rfl ⟨oe, List.mem_cons_self, hz, hf⟩ (pv 1)) pa_nil)))) pa_nil)))) pss_nil)
        (pss_cons (ps_if (pt_val (pe_callB (r := rIsX K a cls d) (call_isX ⟨oe, List.mem_cons_self, hz, hf⟩) (by rfl) (g_isinstance T) PyProof.Rows.boot_isinstance (pa_cons (pv 1) (pa_cons (pe_glob (v := .ref (He.ga K "BadRow")) (by rfl) (g_BadRow T) rfl) pa_nil)))) (pss_one (ps_expr (pe_app (K := K) rfl (pv 2) (pa_cons (pe_tup (pa_cons pe_str (pa_cons (pe_fldK (K := K) (cls := cls) (d := d) rfl ⟨oe, List.mem_cons_self, hz, hf⟩ (pv 1)) (pa_cons (pe_fldK (K := K) (cls := cls) (d := d) rfl ⟨oe, List.mem_cons_self, hz, hf⟩ (pv 1)) pa_nil)))) pa_nil)))) pss_nil)
        (pss_cons (ps_if (pt_val (pe_callB (r := rIsX K a cls d) (call_isX ⟨oe, List.mem_cons_self, hz, hf⟩) (by rfl) (g_isinstance T) PyProof.Rows.boot_isinstance (pa_cons (pv 1) (pa_cons (pe_glob (v := .ref (He.ga K "TooMany")) (by rfl) (g_TooMany T) rfl) pa_nil)))) (pss_one (ps_expr (pe_app (K := K) rfl (pv 2) (pa_cons (pe_tup (pa_cons pe_str (pa_cons (pe_fldK (K := K) (cls := cls) (d := d) rfl ⟨oe, List.mem_cons_self, hz, hf⟩ (pv 1)) (pa_cons (pe_fldK (K := K) (cls := cls) (d := d) rfl ⟨oe, List.mem_cons_self, hz, hf⟩ (pv 1)) (pa_cons (pe_fldK (K := K) (cls := cls) (d := d) rfl ⟨oe, List.mem_cons_self, hz, hf⟩ (pv 1)) pa_nil))))) pa_nil)))) pss_nil)
        (pss_cons (ps_if (pt_val (pe_callB (r := rIsX K a cls d) (call_isX ⟨oe, List.mem_cons_self, hz, hf⟩) (by rfl) (g_isinstance T) PyProof.Rows.boot_isinstance (pa_cons (pv 1) (pa_cons (pe_glob (v := .ref (He.ga K "Unlike")) (by rfl) (g_Unlike T) rfl) pa_nil)))) (pss_one (ps_expr (pe_app (K := K) rfl (pv 2) (pa_cons (pe_tup (pa_cons pe_str (pa_cons (pe_fldK (K := K) (cls := cls) (d := d) rfl ⟨oe, List.mem_cons_self, hz, hf⟩ (pv 1)) pa_nil))) pa_nil)))) pss_nil)
        (pss_one (ps_ret (pe_ifExp (pt_cmpR op_eq (pe_callB (r := rLn K) call_ln (by rfl) (g_len T) PySem.boot_len (pa_cons (pv 2) pa_nil)) pe_int (nomark _)) (pe_ix (r := rIx K) ix_seq (pv 2) pe_int (fun _ _ => rfl)) (pe_tup (pa_cons pe_str pa_nil)))))))))))
    (pss_one (ps_ret (pe_tup (pa_cons pe_str pa_nil)))), ?_⟩
  refine ⟨f, tl, rfl, hO, hD _ _ (fun cls d H1 e1 => ?_) fun v H1 q1 => ⟨Nat.le_of_lt (small1000 (by simp)), fun t nt => hN v H1 q1 t _ nt (Same.new nt) upd_same⟩⟩
  obtain ⟨i, dd, fs, ws, hi, rfl, rfl, ed, tells, k⟩ := hX cls d H1 e1
  refine ⟨true, T.kin.caught _ (ek_in hi), fun _ a na => ?_, fun z => nomatch z⟩
  have E1 := (ek_err T hi).exc
  have no := (ek_err T hi).none_
  have kk : ∀ y, y ∈ errs.map (·.1) → PySem.W.kitOne K (.ref (He.ga K (ek i))) (.ref (He.ga K y)) = some (decide (ek i = y)) := fun y hy => T.kin.own _ (ek_in hi) y hy
  refine ⟨Nat.zero_le _, fun l nl => ?_⟩
  have sl : Same H1 (upd H1 l (.lst [])) := Same.new nl
  have el : upd H1 l (.lst []) l = some (.lst []) := upd_same
  have edl := sl dd _ ed
  generalize upd H1 l (.lst []) = H2 at sl el edl ⊢
  clear hX
  revert tells E1 no kk
  match i, hi with
  | 0, _ =>
    intro tells E1 no kk
    obtain ⟨a0, a1, h0, h1, rfl⟩ := tells
    refine ⟨_, rfl, _, .ref (He.ga K "BadNumber"), _, true, rfl, E1, (.inr ⟨dd, fs, rfl, edl⟩), rfl, fun u hu => hu, kk "BadNumber" (by decide), true, rfl, iteT ⟨_, rfl, .inl ⟨rfl, _, SqL.of el⟩, _, rfl, rfl, _, dd, fs, a0, rfl, E1, no "what" (by decide), rfl, edl, h0, _, rfl, rfl, _, dd, fs, a1, rfl, E1, no "number" (by decide), rfl, edl, h1, Nat.le_of_lt (small1000 (by simp)), fun t nt => ⟨l, [], .ref t, rfl, rfl, (Same.new nt) l _ el, by decide, ?_⟩⟩⟩
    have nd3 : dd ≠ l := ne_of edl el (by intro z; cases z)
    have ntl : t ≠ l := fun z => by rw [z, el] at nt; cases nt
    have s3 : Same H1 (upd (upd H2 t (.tup [.str "number", a0, a1])) l (.lst ([] ++ [.ref t]))) := fun b o e => by rw [upd_ne (ne_of_none e nl)]; exact (Same.new nt) b _ (sl b _ e)
    have ed3 := s3 dd _ ed
    have e3 : upd (upd H2 t (.tup [.str "number", a0, a1])) l (.lst ([] ++ [.ref t])) l = some (.lst [.ref t]) := upd_same
    have et : upd (upd H2 t (.tup [.str "number", a0, a1])) l (.lst ([] ++ [.ref t])) t = some (.tup [.str "number", a0, a1]) := by rw [upd_ne ntl, upd_same]
    have n1 : H1 t = none := sl.free nt
    generalize upd (upd H2 t (.tup [.str "number", a0, a1])) l (.lst ([] ++ [.ref t])) = H3 at s3 ed3 e3 et ⊢
    refine ⟨_, rfl, _, .ref (He.ga K "BadRow"), _, false, rfl, E1, (.inr ⟨dd, fs, rfl, ed3⟩), rfl, fun u hu => hu, kk "BadRow" (by decide), false, rfl, iteF ?_⟩
    refine ⟨_, rfl, _, .ref (He.ga K "TooMany"), _, false, rfl, E1, (.inr ⟨dd, fs, rfl, ed3⟩), rfl, fun u hu => hu, kk "TooMany" (by decide), false, rfl, iteF ?_⟩
    refine ⟨_, rfl, _, .ref (He.ga K "Unlike"), _, false, rfl, E1, (.inr ⟨dd, fs, rfl, ed3⟩), rfl, fun u hu => hu, kk "Unlike" (by decide), false, rfl, iteF ?_⟩
    exact ⟨_, rfl, l, _, rfl, .inl (SqL.of e3), rfl, _, rfl, if_yes (by simp) ⟨_, rfl, .inl ⟨l, _, 0, .ref t, rfl, rfl, SqL.of e3, rfl, k t H3 n1 s3 et⟩⟩⟩
  | 1, _ =>
    intro tells E1 no kk
    obtain ⟨a0, a1, h0, h1, rfl⟩ := tells
    refine ⟨_, rfl, _, .ref (He.ga K "BadNumber"), _, false, rfl, E1, (.inr ⟨dd, fs, rfl, edl⟩), rfl, fun u hu => hu, kk "BadNumber" (by decide), false, rfl, iteF ?_⟩
    refine ⟨_, rfl, _, .ref (He.ga K "BadRow"), _, true, rfl, E1, (.inr ⟨dd, fs, rfl, edl⟩), rfl, fun u hu => hu, kk "BadRow" (by decide), true, rfl, iteT ⟨_, rfl, .inl ⟨rfl, _, SqL.of el⟩, _, rfl, rfl, _, dd, fs, a0, rfl, E1, no "what" (by decide), rfl, edl, h0, _, rfl, rfl, _, dd, fs, a1, rfl, E1, no "row" (by decide), rfl, edl, h1, Nat.le_of_lt (small1000 (by simp)), fun t nt => ⟨l, [], .ref t, rfl, rfl, (Same.new nt) l _ el, by decide, ?_⟩⟩⟩
    have nd3 : dd ≠ l := ne_of edl el (by intro z; cases z)
    have ntl : t ≠ l := fun z => by rw [z, el] at nt; cases nt
    have s3 : Same H1 (upd (upd H2 t (.tup [.str "row", a0, a1])) l (.lst ([] ++ [.ref t]))) := fun b o e => by rw [upd_ne (ne_of_none e nl)]; exact (Same.new nt) b _ (sl b _ e)
    have ed3 := s3 dd _ ed
    have e3 : upd (upd H2 t (.tup [.str "row", a0, a1])) l (.lst ([] ++ [.ref t])) l = some (.lst [.ref t]) := upd_same
    have et : upd (upd H2 t (.tup [.str "row", a0, a1])) l (.lst ([] ++ [.ref t])) t = some (.tup [.str "row", a0, a1]) := by rw [upd_ne ntl, upd_same]
    have n1 : H1 t = none := sl.free nt
    generalize upd (upd H2 t (.tup [.str "row", a0, a1])) l (.lst ([] ++ [.ref t])) = H3 at s3 ed3 e3 et ⊢
    refine ⟨_, rfl, _, .ref (He.ga K "TooMany"), _, false, rfl, E1, (.inr ⟨dd, fs, rfl, ed3⟩), rfl, fun u hu => hu, kk "TooMany" (by decide), false, rfl, iteF ?_⟩
    refine ⟨_, rfl, _, .ref (He.ga K "Unlike"), _, false, rfl, E1, (.inr ⟨dd, fs, rfl, ed3⟩), rfl, fun u hu => hu, kk "Unlike" (by decide), false, rfl, iteF ?_⟩
    exact ⟨_, rfl, l, _, rfl, .inl (SqL.of e3), rfl, _, rfl, if_yes (by simp) ⟨_, rfl, .inl ⟨l, _, 0, .ref t, rfl, rfl, SqL.of e3, rfl, k t H3 n1 s3 et⟩⟩⟩
  | 2, _ =>
    intro tells E1 no kk
    obtain ⟨a0, a1, a2, h0, h1, h2, rfl⟩ := tells
    refine ⟨_, rfl, _, .ref (He.ga K "BadNumber"), _, false, rfl, E1, (.inr ⟨dd, fs, rfl, edl⟩), rfl, fun u hu => hu, kk "BadNumber" (by decide), false, rfl, iteF ?_⟩
    refine ⟨_, rfl, _, .ref (He.ga K "BadRow"), _, false, rfl, E1, (.inr ⟨dd, fs, rfl, edl⟩), rfl, fun u hu => hu, kk "BadRow" (by decide), false, rfl, iteF ?_⟩
    refine ⟨_, rfl, _, .ref (He.ga K "TooMany"), _, true, rfl, E1, (.inr ⟨dd, fs, rfl, edl⟩), rfl, fun u hu => hu, kk "TooMany" (by decide), true, rfl, iteT ⟨_, rfl, .inl ⟨rfl, _, SqL.of el⟩, _, rfl, rfl, _, dd, fs, a0, rfl, E1, no "what" (by decide), rfl, edl, h0, _, rfl, rfl, _, dd, fs, a1, rfl, E1, no "many" (by decide), rfl, edl, h1, _, rfl, rfl, _, dd, fs, a2, rfl, E1, no "limit" (by decide), rfl, edl, h2, Nat.le_of_lt (small1000 (by simp)), fun t nt => ⟨l, [], .ref t, rfl, rfl, (Same.new nt) l _ el, by decide, ?_⟩⟩⟩
    have nd3 : dd ≠ l := ne_of edl el (by intro z; cases z)
    have ntl : t ≠ l := fun z => by rw [z, el] at nt; cases nt
    have s3 : Same H1 (upd (upd H2 t (.tup [.str "many", a0, a1, a2])) l (.lst ([] ++ [.ref t]))) := fun b o e => by rw [upd_ne (ne_of_none e nl)]; exact (Same.new nt) b _ (sl b _ e)
    have ed3 := s3 dd _ ed
    have e3 : upd (upd H2 t (.tup [.str "many", a0, a1, a2])) l (.lst ([] ++ [.ref t])) l = some (.lst [.ref t]) := upd_same
    have et : upd (upd H2 t (.tup [.str "many", a0, a1, a2])) l (.lst ([] ++ [.ref t])) t = some (.tup [.str "many", a0, a1, a2]) := by rw [upd_ne ntl, upd_same]
    have n1 : H1 t = none := sl.free nt
    generalize upd (upd H2 t (.tup [.str "many", a0, a1, a2])) l (.lst ([] ++ [.ref t])) = H3 at s3 ed3 e3 et ⊢
    refine ⟨_, rfl, _, .ref (He.ga K "Unlike"), _, false, rfl, E1, (.inr ⟨dd, fs, rfl, ed3⟩), rfl, fun u hu => hu, kk "Unlike" (by decide), false, rfl, iteF ?_⟩
    exact ⟨_, rfl, l, _, rfl, .inl (SqL.of e3), rfl, _, rfl, if_yes (by simp) ⟨_, rfl, .inl ⟨l, _, 0, .ref t, rfl, rfl, SqL.of e3, rfl, k t H3 n1 s3 et⟩⟩⟩
  | 3, _ =>
    intro tells E1 no kk
    obtain ⟨a0, h0, rfl⟩ := tells
    refine ⟨_, rfl, _, .ref (He.ga K "BadNumber"), _, false, rfl, E1, (.inr ⟨dd, fs, rfl, edl⟩), rfl, fun u hu => hu, kk "BadNumber" (by decide), false, rfl, iteF ?_⟩
    refine ⟨_, rfl, _, .ref (He.ga K "BadRow"), _, false, rfl, E1, (.inr ⟨dd, fs, rfl, edl⟩), rfl, fun u hu => hu, kk "BadRow" (by decide), false, rfl, iteF ?_⟩
    refine ⟨_, rfl, _, .ref (He.ga K "TooMany"), _, false, rfl, E1, (.inr ⟨dd, fs, rfl, edl⟩), rfl, fun u hu => hu, kk "TooMany" (by decide), false, rfl, iteF ?_⟩
    refine ⟨_, rfl, _, .ref (He.ga K "Unlike"), _, true, rfl, E1, (.inr ⟨dd, fs, rfl, edl⟩), rfl, fun u hu => hu, kk "Unlike" (by decide), true, rfl, iteT ⟨_, rfl, .inl ⟨rfl, _, SqL.of el⟩, _, rfl, rfl, _, dd, fs, a0, rfl, E1, no "what" (by decide), rfl, edl, h0, Nat.le_of_lt (small1000 (by simp)), fun t nt => ⟨l, [], .ref t, rfl, rfl, (Same.new nt) l _ el, by decide, ?_⟩⟩⟩
    have nd3 : dd ≠ l := ne_of edl el (by intro z; cases z)
    have ntl : t ≠ l := fun z => by rw [z, el] at nt; cases nt
    have s3 : Same H1 (upd (upd H2 t (.tup [.str "unlike", a0])) l (.lst ([] ++ [.ref t]))) := fun b o e => by rw [upd_ne (ne_of_none e nl)]; exact (Same.new nt) b _ (sl b _ e)
    have ed3 := s3 dd _ ed
    have e3 : upd (upd H2 t (.tup [.str "unlike", a0])) l (.lst ([] ++ [.ref t])) l = some (.lst [.ref t]) := upd_same
    have et : upd (upd H2 t (.tup [.str "unlike", a0])) l (.lst ([] ++ [.ref t])) t = some (.tup [.str "unlike", a0]) := by rw [upd_ne ntl, upd_same]
    have n1 : H1 t = none := sl.free nt
    generalize upd (upd H2 t (.tup [.str "unlike", a0])) l (.lst ([] ++ [.ref t])) = H3 at s3 ed3 e3 et ⊢
    exact ⟨_, rfl, l, _, rfl, .inl (SqL.of e3), rfl, _, rfl, if_yes (by simp) ⟨_, rfl, .inl ⟨l, _, 0, .ref t, rfl, rfl, SqL.of e3, rfl, k t H3 n1 s3 et⟩⟩⟩
  | j + 4, z => exact absurd z (by omega)
end
end K48
namespace K48
open PySem PySem.Spec PyProof.Rows L2 Tc
/-! _law_raise_so -/
theorem cut_init (pre : List V) (r : V) : cutV (pre ++ [r]) none (some (-1)) = pre := by
  unfold cutV
  have e : HT.sIx (pre ++ [r]).length (pre ++ [r]).length (some (-1)) = pre.length := by
    show (if (-1 : Int) < 0 then ((-1 : Int) + ((pre ++ [r]).length : Int)).toNat else min (-1 : Int).toNat (pre ++ [r]).length) = pre.length
    rw [if_pos (by decide), List.length_append, List.length_singleton]
    omega
  rw [HT.sIx_none, e, Nat.sub_zero, List.drop_zero, List.take_left']
  rfl
theorem cut_part (pre : List V) (r : V) : ¬ (HT.sIx (pre ++ [r]).length 0 none = 0 ∧ HT.sIx (pre ++ [r]).length (pre ++ [r]).length (some (-1)) = (pre ++ [r]).length) := by
  rintro ⟨_, h⟩
  have e : HT.sIx (pre ++ [r]).length (pre ++ [r]).length (some (-1)) = pre.length := by
    show (if (-1 : Int) < 0 then ((-1 : Int) + ((pre ++ [r]).length : Int)).toNat else min (-1 : Int).toNat (pre ++ [r]).length) = pre.length
    rw [if_pos (by decide), List.length_append, List.length_singleton]
    omega
  rw [e, List.length_append, List.length_singleton] at h
  omega
theorem at_last (pre : List V) (r : V) : atI (pre ++ [r]) (-1) = some r := by
  have h1 : ¬ (0 : Int) ≤ -1 := by decide
  have h2 : -((pre ++ [r]).length : Int) ≤ -1 := by rw [List.length_append, List.length_singleton]; omega
  have h3 : ((-1 : Int) + ((pre ++ [r]).length : Int)).toNat = pre.length := by rw [List.length_append, List.length_singleton]; omega
  unfold atI ixN
  rw [if_neg h1, if_pos h2]
  simp only [Option.bind_some]
  first
    | rw [h3, List.getElem?_append_right (Nat.le_refl _), Nat.sub_self]; rfl
    | (rw [show (((pre ++ [r]).length : Int) + -1).toNat = pre.length by rw [List.length_append, List.length_singleton]; omega, List.getElem?_append_right (Nat.le_refl _), Nat.sub_self]; rfl)
/-- what repr asks of data -/
def Shows (d : PyData) : Prop := d.showable = true ∧ d.shown.length ≤ sizeLine ∧ d.depth ≤ 64
/-- what a call's row asks: the error that is due, its last field last -/
def RowOk (K : PySem.W.Frag) (O : Addr → ActT → Prop) (H : Hp) (x : V) : Prop := ∃ (tp f dt : Addr) (tl : ActT) (pre : List V) (r : V) (dp : List PyData) (d : PyData), x = .ref tp ∧ SqT K H tp [.ref f, .ref dt] ∧ SqT K H dt (pre ++ [r]) ∧ DpAll K H pre dp ∧
  SeqAt.shaped (.tuple dp) = true ∧ PyData.eqv (.tuple dp) (.tuple dp) = true ∧ Dp K H r d ∧ Shows d ∧ O f tl ∧
  ∀ H1, Same H H1 → ∃ (E1 : XK) (Q1 : VK), Does tl H1 E1 Q1 ∧ (∀ v H2, ¬ Q1 v H2) ∧ ∀ cls d' H2, E1 cls d' H2 → Same H1 H2 ∧ ∃ (i : Nat) (dd : Addr) (fs : List (Str × V)), i < ekMany ∧ cls = .ref (He.ga K (ek i)) ∧ d' = some dd ∧ H2 dd = some (.xd fs) ∧ Tells i fs (pre ++ [r])
def spRaise (K : PySem.W.Frag) : (Addr → ActT → Prop) → Sp := fun O vs H Q _ => ∃ (l : Addr) (xs : List V), vs = [.ref l] ∧ SqL K H l xs ∧ (∀ x ∈ xs, RowOk K O H x) ∧ ∀ H', Same H H' → Q (.bl true) H'
section
variable {P : Program} {w : World} {K : PySem.W.Frag} {mg : Str → Option Value} {base : Heap}
theorem c_law_raise_so (T : TX K mg) (ka : Nat) : CalleeA P w K mg base CX0 Quiet (ka + 2) ka "_law_raise_so" ["calls"] (spRaise K) := by
  obtain ⟨fd, F⟩ := F_law_raise_so T
  refine calleeA_mk F (g_law_raise_so T) (fun _ _ _ _ _ _ us hl => match us, hl with | [_], _ => rfl) ?_
  refine funA F sc_law_raise_so (fun O vs H Q E h => by obtain ⟨l, xs, rfl, _⟩ := h; rfl) (fun O O' vs H Q E i h => by
    obtain ⟨l, xs, e, hq, hx, k⟩ := h
    exact ⟨l, xs, e, hq, fun x m => by
      obtain ⟨tp, f, dt, tl, pre, r, dp, d, e1, e2, e3, e4, e5, e6, e7, e8, e9, e10⟩ := hx x m
      exact ⟨tp, f, dt, tl, pre, r, dp, d, e1, e2, e3, e4, e5, e6, e7, e8, i _ _ e9, e10⟩, k⟩) fun cdv A outer s H vs Q E g hr h => ?_
  obtain ⟨l, xs, rfl, hq, hx, k⟩ := h
  have hu := hr.units
  have hu2 : (A.deeper (envOfC "_law_raise_so" (defScope s_law_raise_so) s.heap.objs.size (He.ga K "_law_raise_so") cdv)).units + 80 < cLine := by have := hr.un; omega
  have hg : (A.deeper (envOfC "_law_raise_so" (defScope s_law_raise_so) s.heap.objs.size (He.ga K "_law_raise_so") cdv)).guards = some [] := g.2
  refine ⟨_, pss_cons (ps_for (passes_of rfl) rfl (pi_list (pv 0)) (pg_tup rfl (pgs_cons (pg_name (i := 1) sc_law_raise_so.nd rfl (Or.inl rfl)) (pgs_cons (pg_name (i := 2) sc_law_raise_so.nd rfl (Or.inl rfl)) pgs_nil)))
      (pss_cons (ps_set (i := 3) sc_law_raise_so.nd rfl (Or.inl rfl) (pe_a (ka := ka) (c_law_caught T ka) hr trivial (pa_cons (pv 1) pa_nil) (Nat.le_refl _)))
      (pss_one (ps_if (pw_or (pt_cmpR (op_neD hu) (pe_slice sl_tup (pv 3) po_none (po_some (pe_un un_neg pe_int))) (pe_slice sl_tup (pv 2) po_none (po_some (pe_un un_neg pe_int))) (nomark _))
        (pw_or1 (pt_cmpR op_ne (pe_callB (call_repr hg hu2) (by rfl) (g_repr T) PyProof.Rows.boot_repr (pa_cons (pe_ix ix_seq (pv 3) (pe_un un_neg pe_int) (fun _ _ => rfl)) pa_nil)) (pe_callB (call_repr hg hu2) (by rfl) (g_repr T) PyProof.Rows.boot_repr (pa_cons (pe_ix ix_seq (pv 2) (pe_un un_neg pe_int) (fun _ _ => rfl)) pa_nil)) (nomark _)))).pt (pss_one (ps_ret pe_bl)) pss_nil))))
    (pss_one (ps_ret pe_bl)), ?_⟩
  refine ⟨_, rfl, l, rfl, ⟨_, hq⟩, for_list (K := K) (a := l) (xs := xs) (fun _ σ H1 => ∃ c d t : Option V, σ = [some (.ref l), c, d, t] ∧ Same H H1) ⟨none, none, none, rfl, Same.refl H⟩ (fun _ _ _ _ ⟨_, _, _, _, e⟩ => grow_seq (.of e) hq) ?_ fun _ H' ⟨_, _, _, _, e⟩ => k H' e⟩
  rintro i x σ H1 hi ⟨c0, d0, t0, rfl, e1⟩
  obtain ⟨tp, f, dt, tl, pre, r, dp, d, rfl, q1, q2, q3, q4, q5, q6, q7, hO, hrun⟩ := hx x (List.mem_of_getElem? hi)
  refine ⟨tp, _, rfl, grow_tup (.of e1) q1, rfl, .ref f, [.ref dt], rfl, .ref dt, [], rfl, rfl, ?_⟩
  obtain ⟨E1, Q1, hD, hN, hX⟩ := hrun H1 e1
  refine ⟨_, rfl, f, tl, E1, Q1, rfl, hO, hD, fun cls d' H2 z => ?_, fun v H2 z => (hN v H2 z).elim⟩
  obtain ⟨e2, j, dd, fs, hj, rfl, rfl, ed, tells⟩ := hX cls d' H2 z
  refine ⟨j, dd, fs, pre ++ [r], hj, rfl, rfl, ed, tells, fun t H3 nt s3 et => ?_⟩
  have S3 : Same H H3 := (e1.trans e2).trans s3
  have e3 : LamX.ExtN H H3 := .of S3
  refine ⟨_, rfl, _, rfl, _, rfl, t, _, rfl, SqT.of et, cut_part pre r, fun a na => ?_⟩
  have sa : Same H3 (upd H3 a (.tup (cutV (pre ++ [r]) none (some (-1))))) := Same.new na
  have ea : upd H3 a (.tup (cutV (pre ++ [r]) none (some (-1)))) a = some (.tup pre) := by rw [upd_same, cut_init]
  generalize upd H3 a (.tup (cutV (pre ++ [r]) none (some (-1)))) = H4 at sa ea ⊢
  have e4 : LamX.ExtN H H4 := e3.trans (.of sa)
  refine ⟨_, rfl, _, rfl, _, rfl, dt, _, rfl, grow_tup e4 q2, cut_part pre r, fun b nb => ?_⟩
  have sb : Same H4 (upd H4 b (.tup (cutV (pre ++ [r]) none (some (-1))))) := Same.new nb
  have eb : upd H4 b (.tup (cutV (pre ++ [r]) none (some (-1)))) b = some (.tup pre) := by rw [upd_same, cut_init]
  generalize upd H4 b (.tup (cutV (pre ++ [r]) none (some (-1)))) = H5 at sb eb ⊢
  have e5 : LamX.ExtN H H5 := e4.trans (.of sb)
  refine ⟨.tuple dp, .tuple dp, .tup (SqT.of (sb a _ ea)) (grow_dps e5 _ q3), .tup (SqT.of eb) (grow_dps e5 _ q3), q4, q4, _, rfl, if_no (by rw [q5]; rfl) ?_⟩
  have t5 := sb _ _ (sa _ _ et)
  exact ⟨_, rfl, _, rfl, .inr (.inl ⟨t, _, -1, r, rfl, rfl, SqT.of t5, at_last pre r, r, d, rfl, .inl (grow_dp e5 _ q6), q7.1, q7.2.1, q7.2.2, _, rfl, _, rfl, .inr (.inl ⟨dt, _, -1, r, rfl, rfl, grow_tup e5 q2, at_last pre r, r, d, rfl, .inl (grow_dp e5 _ q6), q7.1, q7.2.1, q7.2.2, rfl, _, rfl, if_no (by simp) ⟨_, _, _, rfl, (S3.trans sa).trans sb⟩⟩)⟩)⟩
end
end K48
namespace K48
open PySem PySem.Spec PyProof.Rows L2 Tc
def isInt : PyData → Bool
  | .int _ => true
  | _ => false
def isIdx (m : Int) : PyData → Bool
  | .int i => decide (0 ≤ i) && decide (i < m)
  | _ => false
def spWhole (K : PySem.W.Frag) : Sp := fun vs H Q _ => ∃ (v : V) (d : PyData), vs = [v] ∧ Dp K H v d ∧ Tc.plain d = true ∧ Q (.bl (isInt d)) H
def spIndex (K : PySem.W.Frag) : Sp := fun vs H Q _ => ∃ (v : V) (d : PyData) (m : Int), vs = [v, .int m] ∧ Dp K H v d ∧ Tc.plain d = true ∧ Q (.bl (isIdx m d)) H
def spName (K : PySem.W.Frag) : Sp := fun vs H Q _ => ∃ (v : V) (d : PyData), vs = [v] ∧ Dp K H v d ∧ Tc.plain d = true ∧ ∀ H', Same H H' → Q (.bl (nameOkD d)) H'
section
variable {P : Program} {w : World} {K : PySem.W.Frag} {mg : Str → Option Value} {base : Heap}
theorem c_is_whole (T : TX K mg) : Callee P w K mg base CX0 1 "is_whole" ["value"] (spWhole K) := by
  obtain ⟨fd, F⟩ := F_is_whole T
  refine callee_mk F (g_is_whole T) (fun _ _ _ _ _ _ us hl => match us, hl with | [_], _ => rfl) ?_
  refine F.ok sc_is_whole (fun vs H Q E h => by obtain ⟨v, d, rfl, _⟩ := h; rfl) fun cdv A outer s H vs Q E hr h => ?_
  obtain ⟨v, d, rfl, hd, hp, k⟩ := h
  refine ⟨_, pss_one (ps_ret (pe_and (pe_callB call_isi (by rfl) (g_isinstance T) PyProof.Rows.boot_isinstance (pa_cons (pv 0) (pa_cons (pe_bltn (v := .ty "int") (by rfl) (g_int T) PyProof.Rows.boot_int rfl) pa_nil)))
    (pe_one (pe_not (pe_callB call_isi (by rfl) (g_isinstance T) PyProof.Rows.boot_isinstance (pa_cons (pv 0) (pa_cons (pe_bltn (v := .ty "bool") (by rfl) (g_bool T) PyProof.Rows.boot_bool rfl) pa_nil))))))), ?_⟩
  refine ⟨_, rfl, _, .ty "int", _, _, _, rfl, .ty _, ty_dp hd, kit_int hp, _, rfl, ?_⟩
  have go : PySem.W.kitOne K (.type (tyD d)) (.type "bool") = some (isBoo d) := kit_bool hp
  cases hd with
  | non => exact iteF k
  | bl b => exact iteT ⟨_, rfl, _, .ty "bool", _, _, _, rfl, .ty _, ty_dp (.bl b), go, _, rfl, k⟩
  | int i => exact iteT ⟨_, rfl, _, .ty "bool", _, _, _, rfl, .ty _, ty_dp (.int i), go, _, rfl, k⟩
  | str x => exact iteF k
  | lst q a => simp [Tc.plain] at hp
  | tup q a => exact iteF k
theorem c_is_index (T : TX K mg) : Callee P w K mg base CX0 2 "is_index" ["value", "many"] (spIndex K) := by
  obtain ⟨fd, F⟩ := F_is_index T
  refine callee_mk F (g_is_index T) (fun _ _ _ _ _ _ us hl => match us, hl with | [_, _], _ => rfl) ?_
  refine F.ok sc_is_index (fun vs H Q E h => by obtain ⟨v, d, m, rfl, _⟩ := h; rfl) fun cdv A outer s H vs Q E hr h => ?_
  obtain ⟨v, d, m, rfl, hd, hp, k⟩ := h
  refine ⟨_, pss_one (ps_ret (pe_and (pe_f (c_is_whole T) hr (pa_cons (pv 0) pa_nil)) (pe_one (pe_chain op_le op_lt pe_int (pv 0) (pv 1))))), ?_⟩
  refine ⟨_, rfl, v, d, rfl, hd, hp, _, rfl, ?_⟩
  cases hd with
  | int i =>
    refine iteT ⟨_, rfl, _, _, rfl, rfl, _, rfl, ?_⟩
    have e : isIdx m (.int i) = (decide (0 ≤ i) && decide (i < m)) := rfl
    rw [e] at k
    by_cases h0 : (0 : Int) ≤ i
    · rw [if_pos (by simpa using h0)]
      rw [decide_eq_true h0, Bool.true_and] at k
      exact ⟨_, rfl, _, _, rfl, rfl, k⟩
    · rw [if_neg (by simpa using h0)]
      rw [decide_eq_false h0, Bool.false_and] at k
      exact k
  | non => exact iteF k
  | bl b => exact iteF k
  | str x => exact iteF k
  | lst q a => simp [Tc.plain] at hp
  | tup q a => exact iteF k
theorem c_is_name_text (T : TX K mg) : Callee P w K mg base CX0 2 "is_name_text" ["value"] (spName K) := by
  obtain ⟨fd, F⟩ := F_is_name_text T
  refine callee_mk F (g_is_name_text T) (fun _ _ _ _ _ _ us hl => match us, hl with | [_], _ => rfl) ?_
  refine F.ok sc_is_name_text (fun vs H Q E h => by obtain ⟨v, d, rfl, _⟩ := h; rfl) fun cdv A outer s H vs Q E hr h => ?_
  obtain ⟨v, d, rfl, hd, hp, k⟩ := h
  refine ⟨_,
    --W is_name_text h_name.json
    (pss_cons (ps_if (pw_or (pt_not (pt_val (pe_callB call_isi (by rfl) (g_isinstance T) PyProof.Rows.boot_isinstance (pa_cons (pv 0) (pa_cons (pe_bltn (v := .ty "str") (by rfl) (g_str T) PyProof.Rows.boot_str rfl) pa_nil))))) (pw_or (pt_not (pt_chain op_le op_le pe_int (pe_callB (r := _) call_len_str (by rfl) (g_len T) PySem.boot_len (pa_cons (pv 0) pa_nil)) (pe_gi (g_MOST_SIGNS T)))) (pw_or1 (pt_cmpR op_in_seq (pv 0) (pe_glob (by rfl) (g_WORDS T) (show RelV (.ref _) (.ref _) from rfl)) (by rfl))))).pt
    (pss_one (ps_ret pe_bl))
    pss_nil)
    (pss_cons (ps_set (i := 1) sc_is_name_text.nd rfl (Or.inl rfl) (pe_bm PySem.F.plainAttrs_str PySem.F.slot_str_lstrip PySem.F.type_str_lstrip mt_lstripChars (pv 0) (pa_cons (pe_gs (g_LETTERS T)) pa_nil)))
    (pss_one (ps_ret (pe_and (pe_cmpR op_lt (pe_callB (r := _) call_len_str (by rfl) (g_len T) PySem.boot_len (pa_cons (pv 1) pa_nil)) (pe_callB (r := _) call_len_str (by rfl) (g_len T) PySem.boot_len (pa_cons (pv 0) pa_nil)) (nomark _)) (pe_one (pe_callB (cr_all rfl) (by rfl) (g_all T) PyProof.Rows.boot_all (pa_cons (pe_lc (own := [("sign", 2)]) (g := gName 2) rfl sc_is_name_text.nd (pi_str (pv 1)) (blkOk_by (N := ["value", "behind", "sign"]) (sc := defScope s_is_name_text) (by decide +kernel)) (fun _ _ _ _ _ => (pg_name (i := 2) sc_is_name_text.nd rfl (Or.inl rfl))) (fun _ _ _ _ _ => pts_nil) (fun _ _ _ _ _ => (pe_cmpR op_in_sign (pv 2) (pe_gs (g_DIGITS T)) (by rfl)))) pa_nil))))))))
    --/W
    , ?_⟩
  refine ⟨_, rfl, _, .ty "str", _, _, _, rfl, .ty _, ty_dp hd, kit_str hp, _, rfl, ?_⟩
  cases hd with
  | non => exact iteT (k H (Same.refl H))
  | bl b => exact iteT (k H (Same.refl H))
  | int i => exact iteT (k H (Same.refl H))
  | lst q a => simp [Tc.plain] at hp
  | tup q a => exact iteT (k H (Same.refl H))
  | str x =>
    have hx : x.length ≤ 100000 := by simpa [Tc.plain] using hp
    have hz : x.length ≤ sizeLine := Nat.le_trans hx (by decide)
    have e : nameOkD (.str x) = nameOk x := rfl
    rw [e] at k
    unfold nameOk at k
    refine iteF ⟨_, rfl, x, rfl, hz, _, _, rfl, rfl, _, rfl, ?_⟩
    by_cases h1 : (1 : Int) ≤ x.length
    · rw [if_pos (by simpa using h1)]
      rw [decide_eq_true h1, Bool.true_and] at k
      refine ⟨_, _, rfl, rfl, _, rfl, ?_⟩
      by_cases h2 : (x.length : Int) ≤ 12
      · rw [decide_eq_true h2, Bool.true_and] at k
        refine if_no (by simp [h2]) ⟨_, rfl, _, words.map V.str, rfl, .inr (strTup_ok T.tup H), rfl, by decide +kernel, _, rfl, ?_⟩
        refine ifB (fun h3 => ?_) (fun h3 => ?_)
        · rw [show inV (.str x) (words.map V.str) = true from h3] at k
          exact k H (Same.refl H)
        · rw [show inV (.str x) (words.map V.str) = false from h3, Bool.not_false, Bool.true_and] at k
          refine ⟨_, rfl, rfl, _, _, rfl, rfl, hz, ?_⟩
          have hy1 : (Txt.lstripChars x letters).length ≤ x.length := lstrip_len x letters
          have hy : (Txt.lstripChars x letters).length ≤ sizeLine := Nat.le_trans hy1 hz
          change ∀ H', Same H H' → Q (.bl (decide (((Txt.lstripChars x letters).length : Int) < x.length) && (((Txt.lstripChars x letters).cps.toList.map fun c => decide (c ∈ digits.cps.toList)).all id))) H' at k
          obtain ⟨y, ey⟩ : ∃ y, Txt.lstripChars x letters = y := ⟨_, rfl⟩
          rw [ey] at k hy hy1
          have hbig : (100000 : Nat) < sizeLine := by decide
          have ey1 : [V.str (Txt.lstripChars x letters)] = [V.str y] := by rw [ey]
          have ey2 : V.str (Txt.lstripChars x letters) = V.str y := by rw [ey]
          refine ⟨_, rfl, y, ey1, hy, _, rfl, x, rfl, hz, _, _, rfl, rfl, _, rfl, ?_⟩
          refine ifB (fun h4 => ?_) (fun h4 => ?_)
          · rw [h4, Bool.true_and] at k
            refine ⟨_, rfl, y, ey2, fun D nD => lc_it walk_str (fun i H1 => Same H H1 ∧ H1 D = some (.lst ((y.cps.toList.take i).map fun c => .bl (decide (c ∈ digits.cps.toList))))) ⟨Same.new nD, by rw [List.take_zero]; exact upd_same⟩ (fun _ _ _ _ => trivial) ?_ ?_⟩
            · rintro i v H1 H2 hi ⟨s1, eD⟩ ⟨rfl, c, hc, rfl⟩
              refine ⟨rfl, _, rfl, c, digits, rfl, rfl, _, eD, ?_, Same.trans_upd s1 nD, ?_⟩
              · have e4 : y.length = y.cps.size := rfl
                rw [List.length_map, List.length_take]
                exact Nat.lt_of_le_of_lt (Nat.min_le_right _ _) (by rw [Array.length_toList, ← e4]; omega)
              · rw [upd_same, List.take_add_one, List.map_append]
                have e5 : y.cps.toList[i]? = some c := by simpa using hc
                rw [e5]
                rfl
            · rintro H1 ⟨s1, eD⟩
              refine ⟨D, _, rfl, SqL.of (eD.trans ?_), k _ s1⟩
              rw [List.take_of_length_le (by simp), List.map_map]
              rfl
          · rw [h4, Bool.false_and] at k
            exact k H (Same.refl H)
      · rw [decide_eq_false h2, Bool.false_and] at k
        exact if_yes (by simp [h2]) (k H (Same.refl H))
    · rw [decide_eq_false h1, Bool.false_and] at k
      rw [if_neg (by simpa using h1)]
      exact ⟨_, rfl, if_yes (by rfl) (k H (Same.refl H))⟩
end
end K48
namespace K48
open PySem PySem.Spec PyProof.Rows L2 Tc
/-! inner_of -/
section
variable {P : Program} {w : World} {K : PySem.W.Frag} {mg : Str → Option Value} {base : Heap}
theorem c_inner_of (T : TX K mg) : Callee P w K mg base CX0 3 "inner_of" ["term"] (spInner K) := by
  obtain ⟨fd, F⟩ := F_inner_of T
  refine callee_mk F (g_inner_of T) (fun _ _ _ _ _ _ us hl => match us, hl with | [_], _ => rfl) ?_
  refine F.ok sc_inner_of (fun vs H Q E h => by obtain ⟨v, d, rfl, _⟩ := h; rfl) fun cdv A outer s H vs Q E hr h => ?_
  obtain ⟨v, d, rfl, hd, hp, k0, k1⟩ := h
  refine ⟨_,
    --W inner_of h_inner.json
    (pss_cons (ps_if (pw_or (pt_not (pt_val (pe_callB call_isi (by rfl) (g_isinstance T) PyProof.Rows.boot_isinstance (pa_cons (pv 0) (pa_cons (pe_bltn (v := .ty "tuple") (by rfl) (g_tuple T) PyProof.Rows.boot_tuple rfl) pa_nil))))) (pw_or (pt_not (pt_truth (pv 0) (by intro _; rfl))) (pw_or1 (pt_not (pt_val (pe_callB call_isi (by rfl) (g_isinstance T) PyProof.Rows.boot_isinstance (pa_cons (pe_ix (r := rIx K) ix_seq (pv 0) pe_int (fun _ _ => rfl)) (pa_cons (pe_bltn (v := .ty "str") (by rfl) (g_str T) PyProof.Rows.boot_str rfl) pa_nil)))))))).pt
    (pss_one (ps_ret pe_non))
    pss_nil)
    (pss_cons (ps_if (pt_cmpR op_eq (pe_ix (r := rIx K) ix_seq (pv 0) pe_int (fun _ _ => rfl)) pe_str (nomark _))
    (pss_one (ps_ret (pe_ifExp (pt_cmpR op_eq (pe_callB (r := rLn K) call_ln (by rfl) (g_len T) PySem.boot_len (pa_cons (pv 0) pa_nil)) pe_int (nomark _)) (pe_tup pa_nil) pe_non)))
    pss_nil)
    (pss_cons (ps_if (pt_cmpR op_eq (pe_ix (r := rIx K) ix_seq (pv 0) pe_int (fun _ _ => rfl)) pe_str (nomark _))
    (pss_one (ps_ret (pe_ifExp (pw_and (pt_cmpR op_eq (pe_callB (r := rLn K) call_ln (by rfl) (g_len T) PySem.boot_len (pa_cons (pv 0) pa_nil)) pe_int (nomark _)) (pw_and1 (pt_val (pe_f (c_is_name_text T) hr (pa_cons (pe_ix (r := rIx K) ix_seq (pv 0) pe_int (fun _ _ => rfl)) pa_nil))))).pt (pe_tup pa_nil) pe_non)))
    pss_nil)
    (pss_cons (ps_if (pt_cmpR op_eq (pe_ix (r := rIx K) ix_seq (pv 0) pe_int (fun _ _ => rfl)) pe_str (nomark _))
    (pss_one (ps_ret (pe_ifExp (pt_cmpR op_eq (pe_callB (r := rLn K) call_ln (by rfl) (g_len T) PySem.boot_len (pa_cons (pv 0) pa_nil)) pe_int (nomark _)) (pe_slice (r := rSlA K) sl_tupA (pv 0) (po_some pe_int) po_none) pe_non)))
    pss_nil)
    (pss_cons (ps_if (pt_cmpR op_eq (pe_ix (r := rIx K) ix_seq (pv 0) pe_int (fun _ _ => rfl)) pe_str (nomark _))
    (pss_one (ps_ret (pe_ifExp (pt_cmpR op_eq (pe_callB (r := rLn K) call_ln (by rfl) (g_len T) PySem.boot_len (pa_cons (pv 0) pa_nil)) pe_int (nomark _)) (pe_slice (r := rSlA K) sl_tupA (pv 0) (po_some pe_int) po_none) pe_non)))
    pss_nil)
    (pss_cons (ps_if (pt_cmpR op_eq (pe_ix (r := rIx K) ix_seq (pv 0) pe_int (fun _ _ => rfl)) pe_str (nomark _))
    (pss_cons (ps_set (i := 1) sc_inner_of.nd rfl (Or.inl rfl) (pe_and (pe_cmpR op_eq (pe_callB (r := rLn K) call_ln (by rfl) (g_len T) PySem.boot_len (pa_cons (pv 0) pa_nil)) pe_int (nomark _)) (pe_and (pe_f (c_is_name_text T) hr (pa_cons (pe_ix (r := rIx K) ix_seq (pv 0) pe_int (fun _ _ => rfl)) pa_nil)) (pe_and (pe_callB call_isi (by rfl) (g_isinstance T) PyProof.Rows.boot_isinstance (pa_cons (pe_ix (r := rIx K) ix_seq (pv 0) pe_int (fun _ _ => rfl)) (pa_cons (pe_bltn (v := .ty "tuple") (by rfl) (g_tuple T) PyProof.Rows.boot_tuple rfl) pa_nil))) (pe_one (pe_cmpR op_le (pe_callB (r := rLn K) call_ln (by rfl) (g_len T) PySem.boot_len (pa_cons (pe_ix (r := rIx K) ix_seq (pv 0) pe_int (fun _ _ => rfl)) pa_nil)) (pe_gi (g_MOST_TERMS T)) (nomark _)))))))
    (pss_one (ps_ret (pe_ifExp (pt_truth (pv 1) (by intro _; rfl)) (pe_ix (r := rIx K) ix_seq (pv 0) pe_int (fun _ _ => rfl)) pe_non))))
    pss_nil)
    (pss_cons (ps_if (pw_or (pt_cmpR op_ne (pe_ix (r := rIx K) ix_seq (pv 0) pe_int (fun _ _ => rfl)) pe_str (nomark _)) (pw_or (pt_cmpR op_ne (pe_callB (r := rLn K) call_ln (by rfl) (g_len T) PySem.boot_len (pa_cons (pv 0) pa_nil)) pe_int (nomark _)) (pw_or1 (pt_not (pt_val (pe_callB (cr_all rfl) (by rfl) (g_all T) PyProof.Rows.boot_all (pa_cons (pe_lc (own := [("name", 2)]) (g := gName 2) rfl sc_inner_of.nd (pi_tup (pe_tup (pa_cons (pe_ix (r := rIx K) ix_seq (pv 0) pe_int (fun _ _ => rfl)) (pa_cons (pe_ix (r := rIx K) ix_seq (pv 0) pe_int (fun _ _ => rfl)) (pa_cons (pe_ix (r := rIx K) ix_seq (pv 0) pe_int (fun _ _ => rfl)) pa_nil))))) (blkOk_by (N := ["term", "right", "name"]) (sc := defScope s_inner_of) (by decide +kernel)) (fun _ _ _ _ _ => (pg_name (i := 2) sc_inner_of.nd rfl (Or.inl rfl))) (fun _ _ _ _ _ => pts_nil) (fun _ _ _ _ _ => (pe_f (c_is_name_text T) hr (pa_cons (pv 2) pa_nil)))) pa_nil))))))).pt
    (pss_one (ps_ret pe_non))
    pss_nil)
    (pss_one (ps_ret (pe_ifExp (pt_cmpR op_ne (pe_ix (r := rIx K) ix_seq (pv 0) pe_int (fun _ _ => rfl)) (pe_ix (r := rIx K) ix_seq (pv 0) pe_int (fun _ _ => rfl)) (nomark _)) (pe_tup (pa_cons (pe_ix (r := rIx K) ix_seq (pv 0) pe_int (fun _ _ => rfl)) (pa_cons (pe_ix (r := rIx K) ix_seq (pv 0) pe_int (fun _ _ => rfl)) pa_nil))) pe_non))))))))))
    --/W
    , ?_⟩
  refine ⟨_, rfl, _, .ty "tuple", _, _, _, rfl, .ty _, ty_dp hd, kit_tuple hp, _, rfl, ?_⟩
  cases hd with
  | non => exact iteT (k0 rfl H (Same.refl H))
  | bl b => exact iteT (k0 rfl H (Same.refl H))
  | int i => exact iteT (k0 rfl H (Same.refl H))
  | str x => exact iteT (k0 rfl H (Same.refl H))
  | lst q a => simp [Tc.plain] at hp
  | @tup p xs ds q a =>
    obtain ⟨hl, hpa⟩ := plain_tup hp
    have hlen := dps_len a
    refine iteF ⟨_, rfl, !xs.isEmpty, .inr (.inl ⟨xs, q, rfl⟩), ?_⟩
    cases a with
    | nil => exact iteT (k0 rfl H (Same.refl H))
    | @cons x0 xs d0 ds a0 a =>
      obtain ⟨hp0, hpb⟩ := plain_cons hpa
      have hxl : xs.length = ds.length := dps_len a
      refine iteF (rd_ix rfl q (at_of (j := 0) (by simp) rfl) ⟨_, .ty "str", _, _, _, rfl, .ty _, ty_dp a0, kit_str hp0, _, rfl, ?_⟩)
      cases a0 with
      | non => exact iteT (k0 rfl H (Same.refl H))
      | bl b => exact iteT (k0 rfl H (Same.refl H))
      | int i => exact iteT (k0 rfl H (Same.refl H))
      | tup q a => exact iteT (k0 rfl H (Same.refl H))
      | lst q a => simp [Tc.plain] at hp0
      | str z =>
        have at0 : atI (.str z :: xs) 0 = some (.str z) := at_of (j := 0) (by simp) rfl
        refine iteF ?_
        refine ts_word rfl q at0 (fun hz => iteT ?_) (fun n1 => iteF ?_)
        · subst hz
          rw [innerD_nil] at k0 k1
          refine ts_len rfl q (fun h => iteT ?_) (fun h => iteF ?_)
          · rw [List.length_cons] at h
            rw [if_pos (by omega)] at k1
            exact ⟨Nat.zero_le _, fun r nr => k1 [] rfl r [] _ (Same.new nr) (SqT.of upd_same) .nil⟩
          · rw [List.length_cons] at h
            rw [if_neg (by omega)] at k0
            exact k0 rfl H (Same.refl H)
        refine ts_word rfl q at0 (fun hz => iteT ?_) (fun n2 => iteF ?_)
        · subst hz
          refine ts_len rfl q (fun h => iteT ?_) (fun h => iteF (iteF ?_))
          · obtain ⟨x1, xs1, d1, ds1, rfl, rfl, a1, a, hl1⟩ := dps_succ (n := 0) a (by rw [List.length_cons] at h; omega)
            obtain ⟨rfl, rfl⟩ := dps_zero a hl1
            obtain ⟨hp1, hpb⟩ := plain_cons hpb
            rw [innerD_name1] at k0 k1
            refine rd_ix rfl q (at_of (j := 1) (by simp) rfl) ⟨x1, d1, rfl, a1, hp1, fun H1 s1 => ⟨_, rfl, ifB (fun hn => ?_) (fun hn => ?_)⟩⟩
            · rw [if_pos hn] at k1
              exact ⟨Nat.zero_le _, fun r nr => k1 [] rfl r [] _ (s1.trans (Same.new nr)) (SqT.of upd_same) .nil⟩
            · rw [if_neg (by rw [hn]; decide)] at k0
              exact k0 rfl H1 s1
          · rw [List.length_cons] at h
            exact k0 (innerD_name0 (by omega)) H (Same.refl H)
        refine ts_word rfl q at0 (fun hz => iteT ?_) (fun n3 => iteF ?_)
        · subst hz
          rw [innerD_pair] at k0 k1
          refine ts_len rfl q (fun h => iteT ?_) (fun h => iteF ?_)
          · rw [List.length_cons] at h
            rw [if_pos (by omega)] at k1
            exact rd_tail rfl q fun r nr => k1 ds rfl r xs _ (Same.new nr) (SqT.of upd_same) (ten_dps (Ten.new nr) ds hpb a)
          · rw [List.length_cons] at h
            rw [if_neg (by omega)] at k0
            exact k0 rfl H (Same.refl H)
        refine ts_word rfl q at0 (fun hz => iteT ?_) (fun n4 => iteF ?_)
        · subst hz
          rw [innerD_same] at k0 k1
          refine ts_len rfl q (fun h => iteT ?_) (fun h => iteF ?_)
          · rw [List.length_cons] at h
            rw [if_pos (by omega)] at k1
            exact rd_tail rfl q fun r nr => k1 ds rfl r xs _ (Same.new nr) (SqT.of upd_same) (ten_dps (Ten.new nr) ds hpb a)
          · rw [List.length_cons] at h
            rw [if_neg (by omega)] at k0
            exact k0 rfl H (Same.refl H)
        refine ts_word rfl q at0 (fun hz => iteT ?_) (fun n5 => iteF ?_)
        · subst hz
          refine ifLen rfl q (fun h => ?_) (fun h => ?_)
          · obtain ⟨x1, xs1, d1, ds1, rfl, rfl, a1, a, hl1⟩ := dps_succ (n := 1) a (by rw [List.length_cons] at h; omega)
            obtain ⟨x2, xs2, d2, ds2, rfl, rfl, a2, a, hl2⟩ := dps_succ (n := 0) a hl1
            obtain ⟨rfl, rfl⟩ := dps_zero a hl2
            obtain ⟨hp1, hpb⟩ := plain_cons hpb
            obtain ⟨hp2, hpb⟩ := plain_cons hpb
            rw [innerD_call2] at k0 k1
            have at2 : atI [.str "call", x1, x2] 2 = some x2 := at_of (j := 2) (by simp) rfl
            refine ⟨_, rfl, iteT (rd_ix rfl q (at_of (j := 1) (by simp) rfl) ⟨x1, d1, rfl, a1, hp1, fun H1 s1 => ⟨_, rfl, ifB (fun hn => ?_) (fun hn => ?_)⟩⟩)⟩
            · rw [if_pos hn] at k0 k1
              have g1 : LamX.ExtN H H1 := .of s1
              have q1 := grow_tup g1 q
              have a2' := grow_dp g1 _ a2
              refine rd_ix rfl q1 at2 ⟨_, .ty "tuple", _, _, _, rfl, .ty _, ty_dp a2', kit_tuple hp2, _, rfl, ?_⟩
              cases a2' with
              | non => exact iteF ⟨_, rfl, false, rfl, iteF (k0 rfl H1 s1)⟩
              | bl b => exact iteF ⟨_, rfl, false, rfl, iteF (k0 rfl H1 s1)⟩
              | int i => exact iteF ⟨_, rfl, false, rfl, iteF (k0 rfl H1 s1)⟩
              | str x => exact iteF ⟨_, rfl, false, rfl, iteF (k0 rfl H1 s1)⟩
              | lst q a => simp [Tc.plain] at hp2
              | @tup p2 ys es q2 b2 =>
                have hyl := dps_len b2
                refine iteT (rd_ix rfl q1 at2 ⟨p2, ys, rfl, .inr q2, _, _, rfl, rfl, _, rfl, decide ((ys.length : Int) ≤ 5), rfl, ?_⟩)
                have e5 : tupFive (.tuple es) = if es.length ≤ 5 then some es else none := rfl
                rw [e5] at k0 k1
                by_cases h5 : (ys.length : Int) ≤ 5
                · rw [if_pos (by omega)] at k1
                  rw [decide_eq_true h5]
                  exact iteT (rd_ix rfl q1 at2 (k1 es rfl p2 ys H1 s1 q2 b2))
                · rw [if_neg (by omega)] at k0
                  rw [decide_eq_false h5]
                  exact iteF (k0 rfl H1 s1)
            · rw [if_neg (by rw [hn]; decide)] at k0
              exact ⟨_, rfl, false, rfl, iteF (k0 rfl H1 s1)⟩
          · rw [List.length_cons] at h
            exact ⟨_, rfl, iteF ⟨_, rfl, false, rfl, iteF (k0 (innerD_call0 (by omega)) H (Same.refl H))⟩⟩
        refine ts_wordN rfl q at0 (fun n6 => iteT ?_) (fun hz => iteF ?_)
        · exact k0 (innerD_other n1 n2 n3 n4 n5 n6) H (Same.refl H)
        · subst hz
          refine ts_lenN rfl q (fun h => iteT ?_) (fun h => iteF ?_)
          · rw [List.length_cons] at h
            exact k0 (innerD_case0 (by omega)) H (Same.refl H)
          · obtain ⟨x1, xs1, d1, ds1, rfl, rfl, a1, a, hl1⟩ := dps_succ (n := 4) a (by rw [List.length_cons] at h; omega)
            obtain ⟨x2, xs2, d2, ds2, rfl, rfl, a2, a, hl2⟩ := dps_succ (n := 3) a hl1
            obtain ⟨x3, xs3, d3, ds3, rfl, rfl, a3, a, hl3⟩ := dps_succ (n := 2) a hl2
            obtain ⟨x4, xs4, d4, ds4, rfl, rfl, a4, a, hl4⟩ := dps_succ (n := 1) a hl3
            obtain ⟨x5, xs5, d5, ds5, rfl, rfl, a5, a, hl5⟩ := dps_succ (n := 0) a hl4
            obtain ⟨rfl, rfl⟩ := dps_zero a hl5
            obtain ⟨hp1, hpb⟩ := plain_cons hpb
            obtain ⟨hp2, hpb⟩ := plain_cons hpb
            obtain ⟨hp3, hpb⟩ := plain_cons hpb
            obtain ⟨hp4, hpb⟩ := plain_cons hpb
            obtain ⟨hp5, hpb⟩ := plain_cons hpb
            rw [innerD_case5] at k0 k1
            have hpn : Tc.plainAll [d1, d3, d4] = true := by simp [plainAll, hp1, hp3, hp4]
            refine rd_ix rfl q (at_of (j := 1) (by simp) rfl) (rd_ix rfl q (at_of (j := 3) (by simp) rfl) (rd_ix rfl q (at_of (j := 4) (by simp) rfl) ⟨Nat.le_of_lt (small1000 (by simp)), fun r nr => ?_⟩))
            have t0 : SqT K (upd H r (.tup [x1, x3, x4])) r [x1, x3, x4] := SqT.of upd_same
            have s0 : Same H (upd H r (.tup [x1, x3, x4])) := Same.new nr
            have g0 := LamX.ExtN.of s0
            have an : DpAll K (upd H r (.tup [x1, x3, x4])) [x1, x3, x4] [d1, d3, d4] := .cons (grow_dp g0 _ a1) (.cons (grow_dp g0 _ a3) (.cons (grow_dp g0 _ a4) .nil))
            generalize upd H r (.tup [x1, x3, x4]) = H0 at t0 s0 g0 an ⊢
            refine ⟨r, rfl, ⟨[x1, x3, x4], t0⟩, fun D nD => lc_tup (fun i H1 => Same H0 H1 ∧ H1 D = some (.lst (([d1, d3, d4].take i).map fun d => .bl (nameOkD d)))) ⟨Same.new nD, upd_same⟩ (fun i H1 _ h => (Ten.of_same h.1).tup t0) ?_ ?_⟩
            · rintro i x H1 hi ⟨s1, eD⟩
              obtain ⟨d, ed, dx⟩ := dps_get an hi
              refine ⟨rfl, _, rfl, x, d, rfl, grow_dp (.of s1) _ dx, plain_get hpn ed, fun H2 s2 => ⟨_, s2 _ _ eD, ?_, Same.trans_upd (s1.trans s2) nD, ?_⟩⟩
              · rw [List.length_map, List.length_take]
                exact Nat.lt_of_le_of_lt (Nat.min_le_right _ _) (small1000 (by simp))
              · rw [upd_same, List.take_add_one, List.map_append, ed]
                rfl
            · rintro H1 ⟨s1, eD⟩
              have g1 := LamX.ExtN.of (s0.trans s1)
              have q1 := grow_tup g1 q
              refine ⟨D, [nameOkD d1, nameOkD d3, nameOkD d4], rfl, SqL.of eD, _, rfl, ?_⟩
              have ea : ([nameOkD d1, nameOkD d3, nameOkD d4].all id) = (nameOkD d1 && (nameOkD d3 && nameOkD d4)) := by simp
              rw [ea]
              by_cases hn : nameOkD d1 = true ∧ nameOkD d3 = true ∧ nameOkD d4 = true
              · rw [if_pos hn] at k0 k1
                obtain ⟨hn1, hn3, hn4⟩ := hn
                rw [hn1, hn3, hn4]
                refine iteF (rd_ix rfl q1 (at_of (j := 3) (by simp) rfl) (rd_ix rfl q1 (at_of (j := 4) (by simp) rfl) ?_))
                cases a3 with
                | str z3 =>
                  cases a4 with
                  | str z4 =>
                    refine ⟨rfl, _, rfl, ?_⟩
                    have es : sameName (.str z3) (.str z4) = decide (V.str z3 = V.str z4) := by
                      show decide (z3 = z4) = _
                      rw [Bool.eq_iff_iff]
                      simp
                    rw [es] at k0 k1
                    by_cases e34 : V.str z3 = V.str z4
                    · rw [if_pos (decide_eq_true e34)] at k0
                      rw [decide_eq_true e34]
                      exact iteF (k0 rfl H1 (s0.trans s1))
                    · rw [if_neg (by rw [decide_eq_false e34]; decide)] at k1
                      rw [decide_eq_false e34]
                      refine iteT (rd_ix rfl q1 (at_of (j := 2) (by simp) rfl) (rd_ix rfl q1 (at_of (j := 5) (by simp) rfl) ⟨Nat.le_of_lt (small1000 (by simp)), fun r2 nr2 => k1 [d2, d5] rfl r2 [x2, x5] _ ((s0.trans s1).trans (Same.new nr2)) (SqT.of upd_same) ?_⟩))
                      have g2 : LamX.ExtN H (upd H1 r2 (.tup [x2, x5])) := .of ((s0.trans s1).trans (Same.new nr2))
                      exact .cons (grow_dp g2 _ a2) (.cons (grow_dp g2 _ a5) .nil)
                  | _ => exact absurd hn4 (by simp [nameOkD])
                | _ => exact absurd hn3 (by simp [nameOkD])
              · rw [if_neg hn] at k0
                have en : (nameOkD d1 && (nameOkD d3 && nameOkD d4)) = false := by
                  rw [Bool.eq_false_iff]
                  intro z
                  simp only [Bool.and_eq_true] at z
                  exact hn z
                rw [en]
                exact iteT (k0 rfl H1 (s0.trans s1))
end
end K48
namespace K48
open PySem PySem.Spec PyProof.Rows L2 Tc
/-! is_term -/
def left400 (σ : L2.St) : Nat := match σ[2]? with
  | some (some (V.int i)) => (400 - i).toNat
  | _ => 0
section
variable {P : Program} {w : World} {K : PySem.W.Frag} {mg : Str → Option Value} {base : Heap}
theorem c_is_term (T : TX K mg) : Callee P w K mg base CX0 4 "is_term" ["value"] (spIsTerm K) := by
  obtain ⟨fd, F⟩ := F_is_term T
  refine callee_mk F (g_is_term T) (fun _ _ _ _ _ _ us hl => match us, hl with | [_], _ => rfl) ?_
  refine F.ok sc_is_term (fun vs H Q E h => by obtain ⟨v, d, rfl, _⟩ := h; rfl) fun cdv A outer s H vs Q E hr h => ?_
  obtain ⟨v, d, rfl, hd, hp, k⟩ := h
  refine ⟨_,
    --W is_term h_isterm.json
    (pss_cons (ps_par (i := 1) (j := 2) rfl sc_is_term.nd rfl rfl (by decide) rfl rfl (pa_cons (pe_lst (pa_cons (pe_tup (pa_cons (pv 0) (pa_cons pe_int pa_nil))) pa_nil)) (pa_cons pe_int pa_nil)) rfl)
    (pss_cons (ps_while PassesOwn.never (pt_truth (pv 1) (by intro _; rfl))
    (pss_cons (ps_asg (pe_bm0 PySem.F.plainAttrs_list PySem.F.slot_list_pop PySem.F.type_list_pop mt_pop (pv 1)) (pg_tup rfl (pgs_cons (pg_name (i := 3) sc_is_term.nd rfl (by first | exact Or.inl rfl | exact Or.inr rfl)) (pgs_cons (pg_name (i := 4) sc_is_term.nd rfl (by first | exact Or.inl rfl | exact Or.inr rfl)) pgs_nil))))
    (pss_cons (ps_par (i := 5) (j := 2) rfl sc_is_term.nd rfl rfl (by decide) rfl rfl (pa_cons (pe_f (c_inner_of T) hr (pa_cons (pv 3) pa_nil)) (pa_cons (pe_op op_add (pv 2) pe_int) pa_nil)) rfl)
    (pss_cons (ps_if (pw_or (pt_cmpR op_isN (pv 5) pe_non (nomark _)) (pw_or (pt_cmpR op_gt (pv 2) (pe_gi (g_MOST_TUPLES T)) (nomark _)) (pw_or1 (pt_cmpR op_gt (pv 4) (pe_gi (g_MOST_DEEP T)) (nomark _))))).pt
    (pss_one (ps_ret pe_bl))
    pss_nil)
    (pss_one (ps_expr (pe_bm PySem.F.plainAttrs_list PySem.F.slot_list_extend PySem.F.type_list_extend mt_extend (pv 1) (pa_cons (pe_lc (own := [("part", 6)]) (g := gName 6) rfl sc_is_term.nd (pi_tup (pv 5)) (blkOk_by (N := ["value", "line", "many", "here", "deep", "inner", "part"]) (sc := defScope s_is_term) (by decide +kernel)) (fun _ _ _ _ _ => (pg_name (i := 6) sc_is_term.nd rfl (by first | exact Or.inl rfl | exact Or.inr rfl))) (fun _ _ _ _ _ => pts_nil) (fun _ _ _ _ _ => (pe_tup (pa_cons (pv 6) (pa_cons (pe_op op_add (pv 4) pe_int) pa_nil))))) pa_nil))))))))
    (pss_one (ps_ret pe_bl))))
    --/W
    , ?_⟩
  refine ⟨_, rfl, Nat.le_of_lt (small1000 (by simp)), fun a na => ⟨Nat.le_of_lt (small1000 (by simp)), fun l nl => ⟨_, _, rfl, ?_⟩⟩⟩
  have s0 : Same H (upd (upd H a (.tup [v, .int 1])) l (.lst [.ref a])) := (Same.new na).trans (Same.new nl)
  have i0 : Item K (upd (upd H a (.tup [v, .int 1])) l (.lst [.ref a])) (.ref a) (d, 1) :=
    ⟨a, v, rfl, SqT.of ((upd_ne (ne_of_none upd_same nl)).trans upd_same), grow_dp (.of s0) _ hd, hp⟩
  have nlH : H l = none := by
    by_cases e : l = a
    · rw [e] at nl; rw [upd_same] at nl; cases nl
    · rwa [upd_ne e] at nl
  have eL0 : upd (upd H a (.tup [v, .int 1])) l (.lst [.ref a]) l = some (.lst [.ref a]) := upd_same
  generalize upd (upd H a (.tup [v, .int 1])) l (.lst [.ref a]) = H0 at s0 i0 eL0 ⊢
  dsimp only
  refine seq_while (while_by (fun σ H' => ∃ (n : Nat) (xs : List V) (es : List (PyData × Int)) (mi : Int) (o3 o4 o5 o6 : Option V), σ = [some v, some (.ref l), some (.int mi), o3, o4, o5, o6] ∧ mi + n = 400 ∧ Same H H' ∧ H' l = some (.lst xs) ∧ Paired (Item K H') xs es ∧
      xs.length + 5 * n ≤ 2001 ∧ isTermL n es.reverse = isTermD d) (fun σ _ => left400 σ)
    ⟨400, [.ref a], [(d, 1)], 0, none, none, none, none, rfl, rfl, s0, eL0, .cons i0 .nil, by show 1 + 2000 ≤ 2001; decide, rfl⟩ ?_ ?_)
  · rintro σ H1 ⟨n, xs, es, mi, o3, o4, o5, o6, rfl, hn, s1, eL, it, hxl, et⟩
    refine ⟨_, rfl, !xs.isEmpty, .inl ⟨xs, SqL.of eL, rfl⟩, ?_⟩
    rcases List.eq_nil_or_concat xs with rfl | ⟨ys, y, rfl⟩
    · have e0 := paired_nil it
      subst e0
      refine iteF ?_
      have e1 : isTermD d = true := et.symm.trans isTermL_nil
      rw [e1] at k
      exact k H1 s1
    · rw [List.concat_eq_append] at it hxl eL ⊢
      obtain ⟨es', e, rfl, it', a1, v1, rfl, q1, d1, p1⟩ := paired_snoc_inv it
      rw [List.reverse_append, List.reverse_singleton, List.singleton_append] at et
      refine if_yes (by simp) ?_
      refine ⟨_, rfl, .inl ⟨rfl, _, SqL.of eL⟩, l, _, .ref a1, rfl, rfl, eL, by simp, a1, [v1, .int e.2], rfl, (Ten.set eL).tup q1, rfl, v1, _, rfl, .int e.2, _, rfl, rfl, ?_⟩
      rw [List.dropLast_concat]
      have t2 : Ten H1 (upd H1 l (.lst ys)) := Ten.set eL
      have s2 : Same H (upd H1 l (.lst ys)) := Same.trans_upd s1 nlH
      have it2 := items_ten t2 it'
      have d2 := ten_dp t2 _ p1 d1
      have eL2 : upd H1 l (.lst ys) l = some (.lst ys) := upd_same
      rw [List.length_append, List.length_singleton] at hxl
      generalize upd H1 l (.lst ys) = H2 at t2 s2 it2 d2 eL2 ⊢
      refine ⟨v1, rfl, v1, e.1, rfl, d2, p1, fun hno H3 s3 => ?_, fun ks hks q us H3 s3 hq hu => ?_⟩
      · rw [isTermL_none hno] at et
        have e1 : isTermD d = false := et.symm
        rw [e1] at k
        exact ⟨_, rfl, _, _, rfl, rfl, _, _, rfl, _, rfl, rfl, _, rfl, iteT (k H3 (s2.trans s3))⟩
      · have t3 : Ten H2 H3 := Ten.of_same s3
        have it3 := items_ten t3 it2
        have eL3 := s3 _ _ eL2
        have s03 : Same H H3 := s2.trans s3
        refine ⟨_, rfl, _, _, rfl, rfl, _, _, rfl, _, rfl, rfl, _, rfl, iteF ?_⟩
        by_cases hn0 : n = 0
        · subst hn0
          have e1 : isTermD d = false := et.symm
          rw [e1] at k
          exact ⟨_, rfl, _, _, rfl, rfl, _, rfl, if_yes (by simp; omega) (k H3 s03)⟩
        obtain ⟨m, rfl⟩ : ∃ m, n = m + 1 := ⟨n - 1, by omega⟩
        refine ⟨_, rfl, _, _, rfl, rfl, _, rfl, if_no (by simp; omega) ⟨_, rfl, _, _, rfl, rfl, _, rfl, ?_⟩⟩
        by_cases hdp : e.2 > 40
        · rw [isTermL_deep hdp] at et
          have e1 : isTermD d = false := et.symm
          rw [e1] at k
          exact if_yes (by simpa using hdp) (k H3 s03)
        rw [isTermL_some hks hdp] at et
        have hk5 := innerD_len hks
        have hkp := innerD_plain p1 hks
        have hul := dps_len hu
        refine if_no (by simpa using hdp) ⟨_, rfl, .inl ⟨rfl, _, SqL.of eL3⟩, _, rfl, q, rfl, ⟨us, hq⟩, fun D nD => lc_tup (fun i H' => Same H3 H' ∧ ∃ acc, H' D = some (.lst acc) ∧ Paired (Item K H') acc ((ks.take i).map fun x => (x, e.2 + 1))) ⟨Same.new nD, [], upd_same, .nil⟩ (fun i H' _ h => (Ten.of_same h.1).tup hq) ?_ ?_⟩
        · rintro i x H4 hi ⟨s4, acc, eD, ia⟩
          obtain ⟨dk, ek, dx⟩ := dps_get hu hi
          refine ⟨rfl, _, rfl, _, rfl, _, _, rfl, rfl, Nat.le_of_lt (small1000 (by simp)), fun a2 na2 => ⟨acc, ?_, ?_, ?_⟩⟩
          · rw [upd_ne (ne_of_none eD na2)]
            exact eD
          · have := ia.length
            rw [List.length_map, List.length_take] at this
            exact small1000 (by omega)
          · have t5 : Ten H4 (upd (upd H4 a2 (.tup [x, .int (e.2 + 1)])) D (.lst (acc ++ [.ref a2]))) := (Ten.new na2).trans (Ten.set (by rw [upd_ne (ne_of_none eD na2)]; exact eD))
            have nDa : a2 ≠ D := (ne_of_none eD na2).symm
            refine ⟨Same.trans_upd (s4.trans (Same.new na2)) nD, _, upd_same, ?_⟩
            rw [List.take_add_one, ek, List.map_append]
            refine paired_append (items_ten t5 ia) (.cons ⟨a2, x, rfl, SqT.of ((upd_ne nDa).trans upd_same), ten_dp ((Ten.of_same s4).trans t5) _ (plain_get hkp ek) dx, plain_get hkp ek⟩ .nil)
        · rintro H4 ⟨s4, acc, eD, ia⟩
          rw [List.take_of_length_le (by omega)] at ia
          have hal := ia.length
          rw [List.length_map] at hal
          have eL4 := s4 _ _ eL3
          have s04 := s03.trans s4
          refine ⟨l, D, ys, acc, rfl, rfl, eL4, eD, Nat.le_of_lt (small4000 (by omega)), ⟨m, ys ++ acc, es' ++ ks.map fun x => (x, e.2 + 1), mi + 1, _, _, _, _, rfl, by omega, Same.trans_upd s04 nlH, upd_same, items_ten (Ten.set eL4) (paired_append (items_ten (Ten.of_same s4) it3) ia), ?_, ?_⟩, ?_⟩
          · rw [List.length_append]
            omega
          · rw [List.reverse_append]
            exact et
          · show (400 - (mi + 1)).toNat < (400 - mi).toNat
            omega
  · rintro σ H1 Q1 Q2 hQ ⟨x, ex, b, tb, qb⟩
    exact ⟨x, ex, b, tb, hQ _ _ qb⟩
end
end K48
namespace K48
open PySem PySem.Spec PyProof.Rows L2 Tc
/-! all_terms, size_of_term -/
section
variable {P : Program} {w : World} {K : PySem.W.Frag} {mg : Str → Option Value} {base : Heap}
theorem c_all_terms (T : TX K mg) : Callee P w K mg base CX0 4 "all_terms" ["term"] (spAllTerms K) := by
  obtain ⟨fd, F⟩ := F_all_terms T
  refine callee_mk F (g_all_terms T) (fun _ _ _ _ _ _ us hl => match us, hl with | [_], _ => rfl) ?_
  refine F.ok sc_all_terms (fun vs H Q E h => by obtain ⟨v, d, rfl, _⟩ := h; rfl) fun cdv A outer s H vs Q E hr h => ?_
  obtain ⟨v, t, rfl, hv, hz, k⟩ := h
  refine ⟨_,
    --W all_terms 
    (pss_cons (ps_par (i := 1) (j := 2) rfl sc_all_terms.nd rfl rfl (by decide) rfl rfl (pa_cons (pe_lst pa_nil) (pa_cons (pe_lst (pa_cons (pv 0) pa_nil)) pa_nil)) rfl)
    (pss_cons (ps_while PassesOwn.never (pt_truth (pv 2) (by intro _; rfl))
    (pss_cons (ps_set (i := 3) sc_all_terms.nd rfl (by first | exact Or.inl rfl | exact Or.inr rfl) (pe_bm0 PySem.F.plainAttrs_list PySem.F.slot_list_pop PySem.F.type_list_pop mt_pop (pv 2)))
    (pss_cons (ps_expr (pe_app rfl (pv 1) (pa_cons (pv 3) pa_nil)))
    (pss_one (ps_expr (pe_bm PySem.F.plainAttrs_list PySem.F.slot_list_extend PySem.F.type_list_extend mt_extendT (pv 2) (pa_cons (pe_revT (pe_f (c_inner_of T) hr (pa_cons (pv 3) pa_nil))) pa_nil)))))))
    (pss_one (ps_ret (pv 1)))))
    --/W
    , ?_⟩
  refine ⟨Nat.zero_le _, fun f nf => ⟨_, rfl, Nat.le_of_lt (small1000 (by simp)), fun l nl => ⟨_, _, rfl, ?_⟩⟩⟩
  have nfl : f ≠ l := ne_of_none upd_same nl
  have nlH : H l = none := by rwa [upd_ne nfl.symm] at nl
  have s0 : Same H (upd (upd H f (.lst [])) l (.lst [v])) := (Same.new nf).trans (Same.new nl)
  have i0 := TmAt.ten (Ten.of_same s0) hv
  have eL0 : upd (upd H f (.lst [])) l (.lst [v]) l = some (.lst [v]) := upd_same
  have eF0 : upd (upd H f (.lst [])) l (.lst [v]) f = some (.lst []) := (upd_ne nfl).trans upd_same
  generalize upd (upd H f (.lst [])) l (.lst [v]) = H0 at s0 i0 eL0 eF0 ⊢
  dsimp only
  refine seq_while (while_by (fun σ H' => ∃ (xs fs : List V) (ts : List Trm) (o3 : Option V), σ = [some v, some (.ref f), some (.ref l), o3] ∧ Same H H' ∧ H' l = some (.lst xs) ∧ H' f = some (.lst fs) ∧ Paired (TmAt K H') xs ts ∧
      fs.length + sizes ts = t.size) (fun _ H' => match H' f with | some (.lst fs) => t.size - fs.length | _ => 0)
    ⟨[v], [], [t], none, rfl, s0, eL0, eF0, .cons i0 .nil, by show 0 + (t.size + 0) = t.size; omega⟩ ?_ ?_)
  · rintro σ H1 ⟨xs, fs, ts, o3, rfl, s1, eL, eF, it, hsz⟩
    refine ⟨_, rfl, !xs.isEmpty, .inl ⟨xs, SqL.of eL, rfl⟩, ?_⟩
    have hlx := it.length
    have hls := sizes_len (a := ts)
    rcases List.eq_nil_or_concat xs with rfl | ⟨ys, y, rfl⟩
    · have e0 := paired_nil it
      subst e0
      exact iteF ⟨_, rfl, k f fs H1 s1 eF (by rw [sizes] at hsz; omega)⟩
    · rw [List.concat_eq_append] at it eL hlx ⊢
      obtain ⟨ts', u, rfl, it', hu⟩ := paired_snoc_inv it
      rw [List.length_append, List.length_singleton] at hlx
      rw [sizes_append, sizes, size_kids, sizes] at hsz
      have hly := it'.length
      have hls' := sizes_len (a := ts')
      refine if_yes (by simp) ⟨_, rfl, .inl ⟨rfl, _, SqL.of eL⟩, l, _, y, rfl, rfl, eL, by simp, ?_⟩
      rw [List.dropLast_concat]
      have t2 : Ten H1 (upd H1 l (.lst ys)) := Ten.set eL
      have s2 : Same H (upd H1 l (.lst ys)) := Same.trans_upd s1 nlH
      have it2 := tms_ten t2 it'
      have hu2 := TmAt.ten t2 hu
      have eL2 : upd H1 l (.lst ys) l = some (.lst ys) := upd_same
      have eF2 : upd H1 l (.lst ys) f = some (.lst fs) := (upd_ne nfl).trans eF
      generalize upd H1 l (.lst ys) = H2 at t2 s2 it2 hu2 eL2 eF2 ⊢
      refine ⟨_, rfl, .inl ⟨rfl, _, SqL.of eF2⟩, _, rfl, f, fs, y, rfl, rfl, eF2, Nat.lt_of_le_of_lt (show fs.length ≤ 100000 by omega) (by decide), ?_⟩
      have t3 : Ten H2 (upd H2 f (.lst (fs ++ [y]))) := Ten.set eF2
      have s3 : Same H (upd H2 f (.lst (fs ++ [y]))) := Same.trans_upd s2 nf
      have it3 := tms_ten t3 it2
      have hu3 := TmAt.ten t3 hu2
      have eL3 : upd H2 f (.lst (fs ++ [y])) l = some (.lst ys) := (upd_ne nfl.symm).trans eL2
      have eF3 : upd H2 f (.lst (fs ++ [y])) f = some (.lst (fs ++ [y])) := upd_same
      generalize upd H2 f (.lst (fs ++ [y])) = H3 at t3 s3 it3 hu3 eL3 eF3 ⊢
      refine ⟨_, rfl, .inl ⟨rfl, _, SqL.of eL3⟩, _, rfl, y, u.data, rfl, hu3.1, plain_data u hu3.2, fun hno => absurd (hno.symm.trans (inner_data hu3.2)) (by simp), fun ks hks q us H4 s4 hq hus => ⟨q, us, rfl, hq, fun p np => ?_⟩⟩
      have ek : ks = datas u.kids := Option.some.inj (hks.symm.trans (inner_data hu3.2))
      subst ek
      have hul := dps_len hus
      rw [datas_len] at hul
      have hks2 := sizes_len (a := u.kids)
      have it4 := tms_of (ok_kids hu3.2) hus
      have eL4 := s4 _ _ eL3
      have eF4 := s4 _ _ eF3
      have s5 : Same H (upd H4 p (.tup us.reverse)) := (s3.trans s4).trans (Same.new np)
      have t5 : Ten H4 (upd H4 p (.tup us.reverse)) := Ten.new np
      have eL5 : upd H4 p (.tup us.reverse) l = some (.lst ys) := (upd_ne (ne_of_none eL4 np)).trans eL4
      have eF5 : upd H4 p (.tup us.reverse) f = some (.lst (fs ++ [y])) := (upd_ne (ne_of_none eF4 np)).trans eF4
      have it5 := paired_append (tms_ten ((Ten.of_same s4).trans t5) it3) (paired_rev (tms_ten t5 it4))
      refine ⟨l, p, ys, us.reverse, rfl, rfl, eL5, SqT.of upd_same, ?_, ⟨ys ++ us.reverse, fs ++ [y], ts' ++ u.kids.reverse, _, rfl, Same.trans_upd s5 nlH, upd_same, (upd_ne nfl).trans eF5, tms_ten (Ten.set eL5) it5, ?_⟩, ?_⟩
      · rw [List.length_reverse]
        exact Nat.le_of_lt (Nat.lt_of_le_of_lt (show ys.length + us.length ≤ 100000 by omega) (by decide))
      · rw [List.length_append, List.length_singleton, sizes_append, sizes_rev]
        omega
      · rw [upd_ne nfl, eF5, eF]
        show t.size - (fs ++ [y]).length < t.size - fs.length
        rw [List.length_append, List.length_singleton]
        omega
  · rintro σ H1 Q1 Q2 hQ ⟨x, ex, b, tb, qb⟩
    exact ⟨x, ex, b, tb, hQ _ _ qb⟩
theorem c_size_of_term (T : TX K mg) : Callee P w K mg base CX0 5 "size_of_term" ["term"] (spSize K) := by
  obtain ⟨fd, F⟩ := F_size_of_term T
  refine callee_mk F (g_size_of_term T) (fun _ _ _ _ _ _ us hl => match us, hl with | [_], _ => rfl) ?_
  refine F.ok sc_size_of_term (fun vs H Q E h => by obtain ⟨v, d, rfl, _⟩ := h; rfl) fun cdv A outer s H vs Q E hr h => ?_
  obtain ⟨v, t, rfl, hv, hz, k⟩ := h
  refine ⟨_,
    --W size_of_term 
    (pss_one (ps_ret (pe_callB (r := rLn K) call_ln (by rfl) (g_len T) PySem.boot_len (pa_cons (pe_f (c_all_terms T) hr (pa_cons (pv 0) pa_nil)) pa_nil))))
    --/W
    , ?_⟩
  exact ⟨_, rfl, v, t, rfl, hv, hz, fun f fs H' s1 ef el => ⟨f, fs, rfl, .inl (SqL.of ef), by rw [el]; exact k H' s1⟩⟩
end
end K48
namespace K48
open PySem PySem.Spec PyProof.Rows L2 Tc
/-! depth_of_term, need_small, need_term -/
section
variable {P : Program} {w : World} {K : PySem.W.Frag} {mg : Str → Option Value} {base : Heap}
theorem c_depth_of_term (T : TX K mg) : ∀ n : Nat, Callee P w K mg base CX0 (n + 3) "depth_of_term" ["term"] (spDepth K n)
  | 0 => by
    obtain ⟨fd, F⟩ := F_depth_of_term T
    exact callee_mk F (g_depth_of_term T) (fun _ _ _ _ _ _ us hl => match us, hl with | [_], _ => rfl) ⟨fun _ _ _ _ h => h.elim, fun _ _ _ _ _ _ _ _ _ _ _ _ _ h => h.elim⟩
  | n + 1 => by
    have ih := c_depth_of_term T n
    obtain ⟨fd, F⟩ := F_depth_of_term T
    refine callee_mk F (g_depth_of_term T) (fun _ _ _ _ _ _ us hl => match us, hl with | [_], _ => rfl) ?_
    refine F.ok sc_depth_of_term (fun vs H Q E h => by obtain ⟨a, d, rfl, _⟩ := h; rfl) fun cdv A outer s H vs Q E hr h => ?_
    obtain ⟨v, t, rfl, hv, hd, k⟩ := h
    refine ⟨_,
    --W depth_of_term h_depth.json
    (pss_cons (ps_set (i := 1) sc_depth_of_term.nd rfl (by first | exact Or.inl rfl | exact Or.inr rfl) (pe_f (c_inner_of T) hr (pa_cons (pv 0) pa_nil) (by omega)))
    (pss_one (ps_ret (pe_op op_add pe_int (pe_callB (cr_max rfl) (by rfl) (g_max T) PyProof.Rows.boot_max (pa_cons (pe_op op_cat (pe_lst (pa_cons pe_int pa_nil)) (pe_lc (own := [("part", 2)]) (g := gName 2) rfl sc_depth_of_term.nd (pi_tup (pv 1)) (blkOk_by (N := ["term", "inner", "part"]) (sc := defScope s_depth_of_term) (by decide +kernel)) (fun _ _ _ _ _ => (pg_name (i := 2) sc_depth_of_term.nd rfl (by first | exact Or.inl rfl | exact Or.inr rfl))) (fun _ _ _ _ _ => pts_nil) (fun _ _ _ _ _ => (pe_f ih hr (pa_cons (pv 2) pa_nil) (by omega))))) pa_nil))))))
    --/W
    , ?_⟩
    refine ⟨_, rfl, v, t.data, rfl, hv.1, plain_data t hv.2, fun hno => absurd (hno.symm.trans (inner_data hv.2)) (by simp), fun ks hks q us H1 s1 hq hus => ?_⟩
    have ek : ks = datas t.kids := Option.some.inj (hks.symm.trans (inner_data hv.2))
    subst ek
    have it := tms_of (ok_kids hv.2) hus
    have hk5 := innerD_len (inner_data hv.2)
    have hul := it.length
    rw [datas_len] at hk5
    rw [deep_kids] at hd k
    refine ⟨Nat.le_of_lt (small1000 (by simp)), fun l nl => ?_⟩
    have s2 : Same H1 (upd H1 l (.lst [.int 0])) := Same.new nl
    have eL : upd H1 l (.lst [.int 0]) l = some (.lst [.int 0]) := upd_same
    generalize upd H1 l (.lst [.int 0]) = H2 at s2 eL ⊢
    have q2 := (Ten.of_same s2).tup hq
    have it2 := tms_ten (Ten.of_same s2) it
    refine ⟨_, rfl, q, rfl, ⟨us, q2⟩, fun D nD => lc_tup (fun i H' => Same H2 H' ∧ H' D = some (.lst ((t.kids.take i).map fun u => .int u.deep))) ⟨Same.new nD, upd_same⟩ (fun i H' _ h => (Ten.of_same h.1).tup q2) ?_ ?_⟩
    · rintro i x H3 hi ⟨s3, eD⟩
      obtain ⟨u, eu, hu⟩ := paired_get it2 hi
      have := deeps_mem (List.mem_of_getElem? eu)
      refine ⟨rfl, _, rfl, ?_⟩
      obtain ⟨m, rfl⟩ : ∃ m, n = m + 1 := ⟨n - 1, by have := deep_kids u; omega⟩
      refine ⟨x, u, rfl, TmAt.ten (Ten.of_same s3) hu, by omega, fun H4 s4 => ⟨_, s4 _ _ eD, ?_, Same.trans_upd (s3.trans s4) nD, ?_⟩⟩
      · rw [List.length_map, List.length_take]
        exact small1000 (by omega)
      · rw [upd_same, List.take_add_one, eu, List.map_append]
        rfl
    · rintro H3 ⟨s3, eD⟩
      rw [List.take_of_length_le (by omega)] at eD
      have eL3 := s3 _ _ eL
      have emap : (V.int 0 :: t.kids.map fun u => V.int u.deep) = ((0 : Int) :: t.kids.map fun u => (u.deep : Int)).map V.int := by
        rw [List.map_cons, List.map_map]
        rfl
      refine ⟨l, D, _, _, rfl, rfl, eL3, eD, ?_, fun p np => ⟨p, (0 : Int) :: t.kids.map (fun u => (u.deep : Int)), rfl, SqL.of (upd_same.trans (by rw [← emap]; rfl)), by simp, fun m hm ha => ?_⟩⟩
      · rw [List.length_map, List.length_singleton]
        exact Nat.le_of_lt (small1000 (by omega))
      · have em := deeps_max hm ha
        subst em
        refine ⟨_, _, rfl, rfl, ?_⟩
        have e1 : (1 : Int) + (deeps t.kids : Int) = ((1 + deeps t.kids : Nat) : Int) := by omega
        have kk := k _ (((s1.trans s2).trans s3).trans (Same.new (o := .lst ([V.int 0] ++ t.kids.map fun u => V.int u.deep)) np))
        rw [← e1] at kk
        exact kk
theorem c_need_small (T : TX K mg) : Callee P w K mg base CX0 28 "need_small" ["term"] (spNeedSmall K) := by
  obtain ⟨fd, F⟩ := F_need_small T
  refine callee_mk F (g_need_small T) (fun _ _ _ _ _ _ us hl => match us, hl with | [_], _ => rfl) ?_
  refine F.ok sc_need_small (fun vs H Q E h => by obtain ⟨a, d, rfl, _⟩ := h; rfl) fun cdv A outer s H vs Q E hr h => ?_
  obtain ⟨v, t, rfl, hv, hz, hd, k⟩ := h
  refine ⟨_,
    --W need_small h_small.json
    (pss_cons (ps_if (pt_cmpR op_gt (pe_f (c_size_of_term T) hr (pa_cons (pv 0) pa_nil)) (pe_gi (g_MOST_TUPLES T)) (nomark _))
    pss_never
    pss_nil)
    (pss_cons (ps_if (pt_cmpR op_gt (pe_f (c_depth_of_term T 24) hr (pa_cons (pv 0) pa_nil)) (pe_gi (g_MOST_DEEP T)) (nomark _))
    pss_never
    pss_nil)
    (pss_one (ps_ret (pv 0)))))
    --/W
    , ?_⟩
  refine ⟨_, rfl, v, t, rfl, hv, by omega, fun H1 s1 => ⟨_, _, rfl, rfl, _, rfl, if_no (by simp; omega) ?_⟩⟩
  have hv1 := TmAt.ten (Ten.of_same s1) hv
  refine ⟨_, rfl, v, t, rfl, hv1, by omega, fun H2 s2 => ⟨_, _, rfl, rfl, _, rfl, if_no (by simp; omega) ⟨_, rfl, k H2 (s1.trans s2)⟩⟩⟩
theorem c_need_term (T : TX K mg) : Callee P w K mg base (L2.CX P w) 5 "need_term" ["what", "value"] (spNeedTerm K) := by
  obtain ⟨fd, F⟩ := F_need_term T
  refine callee_mk F (g_need_term T) (fun _ _ _ _ _ _ us hl => match us, hl with | [_, _], _ => rfl) ?_
  refine F.okX sc_need_term (fun vs H Q E h => by obtain ⟨z, v, d, rfl, _⟩ := h; rfl) fun cdv A outer s H vs Q E hr h => ?_
  obtain ⟨z, v, d, rfl, hd, hp, k0, k1⟩ := h
  refine ⟨_,
    --W need_term 
    (pss_one (ps_if (pt_not (pt_val (pe_f (c_is_term T) hr (pa_cons (pv 1) pa_nil))))
    (pss_one (ps_raise rfl (takes_of rfl rfl rfl rfl) (pmk_f (i_BadRow T) hr (pa_cons (pv 0) (pa_cons (pv 1) pa_nil)) (mo_var (mo_var mo_nil)))))
    pss_nil))
    --/W
    , ?_⟩
  refine ⟨_, rfl, v, d, rfl, hd, hp, fun H1 s1 => ⟨_, rfl, ?_⟩⟩
  cases e : isTermD d with
  | true => exact iteF (k0 e H1 s1)
  | false => exact iteT ⟨_, rfl, _, rfl, rfl, by decide, fun dd H2 nd ed s2 => k1 e dd H2 (s1.trans s2) ed⟩
end
end K48
namespace K48
open PySem PySem.Spec PyProof.Rows L2 Tc
section
variable {P : Program} {w : World} {K : PySem.W.Frag} {mg : Str → Option Value} {base : Heap}
theorem c_inner_parts (T : TX K mg) : Callee P w K mg base CX0 1 "inner_parts" ["term"] (spParts K) := by
  obtain ⟨fd, F⟩ := F_inner_parts T
  refine callee_mk F (g_inner_parts T) (fun _ _ _ _ _ _ us hl => match us, hl with | [_], _ => rfl) ?_
  refine F.ok sc_inner_parts (fun vs H Q E h => by obtain ⟨v, t, rfl, _⟩ := h; rfl) fun cdv A outer s H vs Q E hr h => ?_
  obtain ⟨v, t, rfl, hv, k⟩ := h
  refine ⟨_,
    --W inner_parts 
    (pss_cons (ps_if (pt_cmpR op_eq (pe_ix (r := rIx K) ix_seq (pv 0) pe_int (fun _ _ => rfl)) pe_str (nomark _))
    (pss_one (ps_ret (pe_ix (r := rIx K) ix_seq (pv 0) pe_int (fun _ _ => rfl))))
    pss_nil)
    (pss_one (ps_ret (pe_ifExp (pt_cmpR op_in_seq (pe_ix (r := rIx K) ix_seq (pv 0) pe_int (fun _ _ => rfl)) (pe_tup (pa_cons pe_str (pa_cons pe_str pa_nil))) (by rfl)) (pe_slice (r := rSlA K) sl_tupA (pv 0) (po_some pe_int) po_none) (pe_tup pa_nil)))))
    --/W
    , ?_⟩
  exact parts_sem (K := K) rfl hv k
theorem c_law_inner (T : TX K mg) : Callee P w K mg base CX0 1 "_law_inner" ["term"] (spParts K) := by
  obtain ⟨fd, F⟩ := F_law_inner T
  refine callee_mk F (g_law_inner T) (fun _ _ _ _ _ _ us hl => match us, hl with | [_], _ => rfl) ?_
  refine F.ok sc_law_inner (fun vs H Q E h => by obtain ⟨v, t, rfl, _⟩ := h; rfl) fun cdv A outer s H vs Q E hr h => ?_
  obtain ⟨v, t, rfl, hv, k⟩ := h
  refine ⟨_,
    --W _law_inner 
    (pss_cons (ps_if (pt_cmpR op_eq (pe_ix (r := rIx K) ix_seq (pv 0) pe_int (fun _ _ => rfl)) pe_str (nomark _))
    (pss_one (ps_ret (pe_ix (r := rIx K) ix_seq (pv 0) pe_int (fun _ _ => rfl))))
    pss_nil)
    (pss_one (ps_ret (pe_ifExp (pt_cmpR op_in_seq (pe_ix (r := rIx K) ix_seq (pv 0) pe_int (fun _ _ => rfl)) (pe_tup (pa_cons pe_str (pa_cons pe_str pa_nil))) (by rfl)) (pe_slice (r := rSlA K) sl_tupA (pv 0) (po_some pe_int) po_none) (pe_tup pa_nil)))))
    --/W
    , ?_⟩
  exact parts_sem (K := K) rfl hv k
end
end K48
namespace K48
open PySem PySem.Spec PyProof.Rows L2 Tc
/-! all_parts -/
section
variable {P : Program} {w : World} {K : PySem.W.Frag} {mg : Str → Option Value} {base : Heap}
theorem c_all_parts (T : TX K mg) : Callee P w K mg base CX0 2 "all_parts" ["term"] (spAllParts K) := by
  obtain ⟨fd, F⟩ := F_all_parts T
  refine callee_mk F (g_all_parts T) (fun _ _ _ _ _ _ us hl => match us, hl with | [_], _ => rfl) ?_
  refine F.ok sc_all_parts (fun vs H Q E h => by obtain ⟨v, d, rfl, _⟩ := h; rfl) fun cdv A outer s H vs Q E hr h => ?_
  obtain ⟨v, t, rfl, hv, hz, hdp, k⟩ := h
  refine ⟨_,
    --W all_parts h_allparts.json
    (pss_cons (ps_par (i := 1) (j := 2) rfl sc_all_parts.nd rfl rfl (by decide) rfl rfl (pa_cons (pe_lst pa_nil) (pa_cons (pe_lst (pa_cons (pe_tup (pa_cons (pe_tup pa_nil) (pa_cons (pv 0) pa_nil))) pa_nil)) pa_nil)) rfl)
    (pss_cons (ps_while PassesOwn.never (pt_truth (pv 2) (by intro _; rfl))
    (pss_cons (ps_asg (pe_bm0 PySem.F.plainAttrs_list PySem.F.slot_list_pop PySem.F.type_list_pop mt_pop (pv 2)) (pg_tup rfl (pgs_cons (pg_name (i := 3) sc_all_parts.nd rfl (by first | exact Or.inl rfl | exact Or.inr rfl)) (pgs_cons (pg_name (i := 4) sc_all_parts.nd rfl (by first | exact Or.inl rfl | exact Or.inr rfl)) pgs_nil))))
    (pss_cons (ps_expr (pe_app rfl (pv 1) (pa_cons (pe_tup (pa_cons (pv 3) (pa_cons (pv 4) pa_nil))) pa_nil)))
    (pss_cons (ps_setLc (i := 7) (own := [("at", 5), ("part", 6)]) (g := (gTup K 2 (gCons (gName 5) (gCons (gName 6) gNil)))) rfl sc_all_parts.nd rfl rfl (by rfl) (pi_enumT (by rfl) (g_enumerate T) (pa_cons (pe_f (c_inner_parts T) hr (pa_cons (pv 4) pa_nil)) pa_nil)) (blkOk_by (N := ["term", "found", "line", "place", "here", "at", "part", "inner"]) (sc := defScope s_all_parts) (by decide +kernel)) (fun _ _ _ _ _ => (pg_tup rfl (pgs_cons (pg_name (i := 5) sc_all_parts.nd rfl (by first | exact Or.inl rfl | exact Or.inr rfl)) (pgs_cons (pg_name (i := 6) sc_all_parts.nd rfl (by first | exact Or.inl rfl | exact Or.inr rfl)) pgs_nil)))) (fun _ _ _ _ _ => pts_nil) (fun _ _ _ _ _ => (pe_tup (pa_cons (pe_tup (pa_starK (K := K) rfl (pv 3) (pa_cons (pv 5) pa_nil))) (pa_cons (pv 6) pa_nil)))))
    (pss_one (ps_expr (pe_bm PySem.F.plainAttrs_list PySem.F.slot_list_extend PySem.F.type_list_extend mt_extend (pv 2) (pa_cons (pe_revL (pv 7)) pa_nil))))))))
    (pss_one (ps_ret (pv 1)))))
    --/W
    , ?_⟩
  have hN := places_len t []
  refine ⟨Nat.zero_le _, fun f nf => ⟨Nat.zero_le _, fun a0 na0 => ⟨_, rfl, Nat.le_of_lt (small1000 (by simp)), fun b0 nb0 => ⟨Nat.le_of_lt (small1000 (by simp)), fun l nl => ⟨_, _, rfl, ?_⟩⟩⟩⟩⟩
  have nfl : f ≠ l := (ne_of_none (H := upd (upd (upd H f (.lst [])) a0 (.tup [])) b0 (.tup [.ref a0, v])) (a := f) (o := .lst []) (by
    rw [upd_ne (ne_of_none (o := .lst []) (by rw [upd_ne (ne_of_none upd_same na0)]; exact upd_same) nb0), upd_ne (ne_of_none upd_same na0)]
    exact upd_same) nl)
  have s0 : Same H (upd (upd (upd (upd H f (.lst [])) a0 (.tup [])) b0 (.tup [.ref a0, v])) l (.lst [.ref b0])) := (((Same.new nf).trans (Same.new na0)).trans (Same.new nb0)).trans (Same.new nl)
  have nlH : H l = none := by
    by_cases h : H l = none
    · exact h
    · exfalso
      obtain ⟨o, e⟩ := Option.ne_none_iff_exists'.mp h
      have e3 := (((Same.new nf).trans (Same.new na0)).trans (Same.new (o := .tup [.ref a0, v]) nb0)) _ _ e
      rw [nl] at e3
      cases e3
  have i0 : PlAt K (upd (upd (upd (upd H f (.lst [])) a0 (.tup [])) b0 (.tup [.ref a0, v])) l (.lst [.ref b0])) (.ref b0) ([], t) := by
    refine ⟨b0, a0, v, rfl, ?_, ?_, TmAt.ten (Ten.of_same s0) hv⟩
    · exact (Ten.new nl).tup (SqT.of upd_same)
    · exact ((Ten.new nb0).trans (Ten.new nl)).tup (SqT.of (upd_same (H := upd H f (.lst []))))
  have eL0 : upd (upd (upd (upd H f (.lst [])) a0 (.tup [])) b0 (.tup [.ref a0, v])) l (.lst [.ref b0]) l = some (.lst [.ref b0]) := upd_same
  have eF0 : upd (upd (upd (upd H f (.lst [])) a0 (.tup [])) b0 (.tup [.ref a0, v])) l (.lst [.ref b0]) f = some (.lst []) :=
    (((Same.new na0).trans (Same.new nb0)).trans (Same.new nl)) f _ upd_same
  generalize upd (upd (upd (upd H f (.lst [])) a0 (.tup [])) b0 (.tup [.ref a0, v])) l (.lst [.ref b0]) = H0 at s0 i0 eL0 eF0 ⊢
  dsimp only
  refine seq_while (while_by (fun σ H' => ∃ (xs fs : List V) (es gs : List (List Int × Trm)) (o3 o4 o5 o6 o7 : Option V), σ = [some v, some (.ref f), some (.ref l), o3, o4, o5, o6, o7] ∧ Same H H' ∧ H' l = some (.lst xs) ∧ H' f = some (.lst fs) ∧ Paired (PlAt K H') xs es ∧ Paired (PlAt K H') fs gs ∧
      gs ++ (es.reverse.flatMap fun e => e.2.places e.1) = t.places [] ∧ ∀ e ∈ es, e.1.length + e.2.deep ≤ t.deep) (fun _ H' => match H' f with | some (.lst fs) => t.size - fs.length | _ => 0)
    ⟨[.ref b0], [], [([], t)], [], none, none, none, none, none, rfl, s0, eL0, eF0, .cons i0 .nil, .nil, by simp, by intro e he; rcases List.mem_singleton.mp he with rfl; show 0 + t.deep ≤ t.deep; omega⟩ ?_ ?_)
  · rintro σ H1 ⟨xs, fs, es, gs, o3, o4, o5, o6, o7, rfl, s1, eL, eF, it, jt, hpl, hdd⟩
    refine ⟨_, rfl, !xs.isEmpty, .inl ⟨xs, SqL.of eL, rfl⟩, ?_⟩
    have hjl := jt.length
    have hfl := flat_len (es := es.reverse)
    have htl : gs.length + (es.reverse.flatMap fun e => e.2.places e.1).length = (t.places []).length := by rw [← List.length_append, hpl]
    rcases List.eq_nil_or_concat xs with rfl | ⟨ys, y, rfl⟩
    · have e0 := paired_nil it
      subst e0
      refine iteF ⟨_, rfl, k f fs H1 s1 eF ?_⟩
      rw [List.reverse_nil, List.flatMap_nil, List.append_nil] at hpl
      rw [← hpl]
      exact jt
    · rw [List.concat_eq_append] at it eL ⊢
      obtain ⟨es', e, rfl, it', a1, b1, v1, rfl, q1, q1b, hu⟩ := paired_snoc_inv it
      have hde := hdd e (by simp)
      have hly := it'.length
      rw [List.length_reverse, List.length_append, List.length_singleton] at hfl
      rw [List.reverse_append, List.reverse_singleton, List.singleton_append, List.flatMap_cons, places_eq] at hpl
      refine if_yes (by simp) ?_
      have t2 : Ten H1 (upd H1 l (.lst ys)) := Ten.set eL
      have s2 : Same H (upd H1 l (.lst ys)) := Same.trans_upd s1 nlH
      have eL2 : upd H1 l (.lst ys) l = some (.lst ys) := upd_same
      have eF2 : upd H1 l (.lst ys) f = some (.lst fs) := (upd_ne nfl).trans eF
      refine ⟨_, rfl, .inl ⟨rfl, _, SqL.of eL⟩, l, _, .ref a1, rfl, rfl, eL, by simp, ?_⟩
      rw [List.dropLast_concat]
      generalize upd H1 l (.lst ys) = H2 at t2 s2 eL2 eF2 ⊢
      have it2 := pls_ten t2 it'
      have jt2 := pls_ten t2 jt
      have hu2 := TmAt.ten t2 hu
      have q2b := t2.tup q1b
      refine ⟨a1, [.ref b1, v1], rfl, t2.tup q1, rfl, .ref b1, _, rfl, v1, _, rfl, rfl, ?_⟩
      refine ⟨_, rfl, .inl ⟨rfl, _, SqL.of eF2⟩, _, rfl, _, rfl, Nat.le_of_lt (small1000 (by simp)), fun a3 na3 => ?_⟩
      have t3 : Ten H2 (upd H2 a3 (.tup [.ref b1, v1])) := Ten.new na3
      have eF3 : upd H2 a3 (.tup [.ref b1, v1]) f = some (.lst fs) := (upd_ne (ne_of_none eF2 na3)).trans eF2
      have eL3 : upd H2 a3 (.tup [.ref b1, v1]) l = some (.lst ys) := (upd_ne (ne_of_none eL2 na3)).trans eL2
      have s3 : Same H (upd H2 a3 (.tup [.ref b1, v1])) := s2.trans (Same.new na3)
      have p3 : PlAt K (upd H2 a3 (.tup [.ref b1, v1])) (.ref a3) e := ⟨a3, b1, v1, rfl, SqT.of upd_same, t3.tup q2b, TmAt.ten t3 hu2⟩
      generalize upd H2 a3 (.tup [.ref b1, v1]) = H3 at t3 eF3 eL3 s3 p3 ⊢
      refine ⟨f, fs, .ref a3, rfl, rfl, eF3, Nat.lt_of_le_of_lt (show fs.length ≤ 1000 by omega) (by decide), ?_⟩
      have t4 : Ten H3 (upd H3 f (.lst (fs ++ [.ref a3]))) := Ten.set eF3
      have s4 : Same H (upd H3 f (.lst (fs ++ [.ref a3]))) := Same.trans_upd s3 nf
      have eF4 : upd H3 f (.lst (fs ++ [.ref a3])) f = some (.lst (fs ++ [.ref a3])) := upd_same
      have eL4 : upd H3 f (.lst (fs ++ [.ref a3])) l = some (.lst ys) := (upd_ne nfl.symm).trans eL3
      generalize upd H3 f (.lst (fs ++ [.ref a3])) = H4 at t4 s4 eF4 eL4 ⊢
      have t24 := t3.trans t4
      have hu4 := TmAt.ten t24 hu2
      refine ⟨_, rfl, v1, e.2, rfl, hu4, fun q us H5 s5 hq hus => ⟨q, us, rfl, hq, fun D nD => ?_⟩⟩
      have t5 : Ten H4 H5 := Ten.of_same s5
      have q5b := (t24.trans t5).tup q2b
      have hul := hus.length
      have hok := hu4.2
      have hkl : us.length ≤ 5 := by
        have h1 := innerD_len (inner_data hok)
        have h2 := parts_len e.2
        rw [datas_len] at h1
        omega
      refine lc_it walk_enumT (fun i H' => Same H5 H' ∧ ∃ acc, H' D = some (.lst acc) ∧ Paired (PlAt K H') acc ((kidsAt e.2.parts e.1 0).take i)) ⟨Same.new nD, [], upd_same, .nil⟩ (fun i H' _ h => (Ten.of_same h.1).tup hq) ?_ ?_
      · rintro i x H6 H7 hi ⟨s6, acc, eD, ia⟩ ⟨T7, xa, xb, rfl, nT, rfl, ea, eb⟩
        have exa : V.int (i : Nat) = xa := Option.some.inj ea
        subst exa
        obtain ⟨u, eu, hub⟩ := paired_get hus eb
        have t6 : Ten H5 H6 := Ten.of_same s6
        have s7 : Same H6 (upd H6 T7 (.tup [.int (i : Nat), xb])) := Same.new nT
        have q7b := (t6.trans (Ten.of_same s7)).tup q5b
        refine ⟨T7, [.int (i : Nat), xb], rfl, SqT.of upd_same, rfl, .int (i : Nat), _, rfl, xb, _, rfl, rfl, rfl, ?_⟩
        have ia7 := pls_ten (Ten.of_same s7) ia
        have eD7 := s7 _ _ eD
        have hub7 := TmAt.ten (t6.trans (Ten.of_same s7)) hub
        have s57 := s6.trans s7
        generalize upd H6 T7 (.tup [.int (i : Nat), xb]) = H7 at s7 q7b ia7 eD7 hub7 s57 ⊢
        refine ⟨_, rfl, b1, e.1.map V.int, rfl, .inl q7b, _, rfl, Nat.le_of_lt (small4000 (by rw [List.length_append, List.length_map, List.length_singleton]; omega)), fun a8 na8 => ⟨_, rfl, Nat.le_of_lt (small1000 (by simp)), fun a9 na9 => ⟨acc, ?_, ?_, ?_, _, upd_same, ?_⟩⟩⟩
        · exact (Same.new na9) _ _ ((Same.new na8) _ _ eD7)
        · have h1 := ia.length
          rw [List.length_take, kidsAt_len] at h1
          exact small1000 (by omega)
        · exact Same.trans_upd ((s57.trans (Same.new na8)).trans (Same.new na9)) nD
        · have eD9 := (Same.new (o := .tup [.ref a8, xb]) na9) _ _ ((Same.new (o := .tup (e.1.map V.int ++ [.int (i : Nat)])) na8) _ _ eD7)
          have t10 : Ten (upd (upd H7 a8 (.tup (e.1.map V.int ++ [.int (i : Nat)]))) a9 (.tup [.ref a8, xb])) (upd (upd (upd H7 a8 (.tup (e.1.map V.int ++ [.int (i : Nat)]))) a9 (.tup [.ref a8, xb])) D (.lst (acc ++ [.ref a9]))) := Ten.set eD9
          have t9 : Ten (upd H7 a8 (.tup (e.1.map V.int ++ [.int (i : Nat)]))) (upd (upd H7 a8 (.tup (e.1.map V.int ++ [.int (i : Nat)]))) a9 (.tup [.ref a8, xb])) := Ten.new na9
          have t8 : Ten H7 (upd H7 a8 (.tup (e.1.map V.int ++ [.int (i : Nat)]))) := Ten.new na8
          rw [List.take_add_one, kidsAt_get, eu]
          refine paired_append (pls_ten ((t8.trans t9).trans t10) ia7) (.cons ⟨a9, a8, xb, rfl, t10.tup (SqT.of upd_same), (t9.trans t10).tup (SqT.of ?_), TmAt.ten ((t8.trans t9).trans t10) hub7⟩ .nil)
          rw [upd_same, List.map_append]
          show some (HO.tup (e.1.map V.int ++ [.int (i : Nat)])) = some (HO.tup (e.1.map V.int ++ [.int (0 + (i : Int))]))
          rw [Int.zero_add]
      · rintro H6 ⟨s6, acc, eD, ia⟩
        rw [List.take_of_length_le (by rw [kidsAt_len]; omega)] at ia
        have hal := ia.length
        rw [kidsAt_len] at hal
        have t46 := t5.trans (Ten.of_same s6)
        have s06 := (s4.trans s5).trans s6
        have eL6 := s6 _ _ (s5 _ _ eL4)
        have eF6 := s6 _ _ (s5 _ _ eF4)
        refine ⟨_, rfl, .inl ⟨rfl, _, SqL.of eL6⟩, _, rfl, D, acc, rfl, SqL.of eD, fun p np => ?_⟩
        have s7 : Same H6 (upd H6 p (.lst acc.reverse)) := Same.new np
        have eL7 := s7 _ _ eL6
        have eF7 := s7 _ _ eF6
        have eP7 : upd H6 p (.lst acc.reverse) p = some (.lst acc.reverse) := upd_same
        have s07 := s06.trans s7
        have t7 : Ten H6 (upd H6 p (.lst acc.reverse)) := Ten.new np
        generalize upd H6 p (.lst acc.reverse) = H7 at s7 eL7 eF7 eP7 s07 t7 ⊢
        have t27 := t24.trans (t46.trans t7)
        have t47 := t46.trans t7
        have t8 : Ten H7 (upd H7 l (.lst (ys ++ acc.reverse))) := Ten.set eL7
        refine ⟨l, p, ys, acc.reverse, rfl, rfl, eL7, eP7, ?_, ⟨ys ++ acc.reverse, fs ++ [.ref a3], es' ++ (kidsAt e.2.parts e.1 0).reverse, gs ++ [e], _, _, _, _, _, rfl, Same.trans_upd s07 nlH, upd_same, (upd_ne nfl).trans eF7, ?_, ?_, ?_, ?_⟩, ?_⟩
        · rw [List.length_reverse]
          exact Nat.le_of_lt (small4000 (by omega))
        · exact paired_append (pls_ten (t27.trans t8) it2) (paired_rev (pls_ten (t7.trans t8) ia))
        · exact paired_append (pls_ten (t27.trans t8) jt2) (.cons (PlAt.ten (t4.trans (t47.trans t8)) p3) .nil)
        · rw [List.reverse_append, List.reverse_reverse, List.flatMap_append, ← placesL_eq, List.append_assoc]
          exact hpl
        · intro u hu
          rcases List.mem_append.mp hu with hu | hu
          · exact hdd u (List.mem_append_left _ hu)
          · rw [List.mem_reverse] at hu
            obtain ⟨j, ej⟩ := List.mem_iff_getElem?.mp hu
            rw [kidsAt_get] at ej
            obtain ⟨w', ew, e2⟩ := Option.map_eq_some_iff.mp ej
            have hm := deeps_mem (parts_mem (List.mem_of_getElem? ew))
            have hk := deep_kids e.2
            rw [← e2]
            show (e.1 ++ [0 + (j : Int)]).length + w'.deep ≤ t.deep
            rw [List.length_append, List.length_singleton]
            omega
        · rw [upd_ne nfl, eF7, eF]
          show t.size - (fs ++ [V.ref a3]).length < t.size - fs.length
          rw [List.length_append, List.length_singleton]
          omega
  · rintro σ H1 Q1 Q2 hQ ⟨x, ex, b, tb, qb⟩
    exact ⟨x, ex, b, tb, hQ _ _ qb⟩
end
end K48
namespace K48
open PySem PySem.Spec PyProof.Rows L2 Tc
/-! places_in -/
section
variable {P : Program} {w : World} {K : PySem.W.Frag} {mg : Str → Option Value} {base : Heap}
theorem c_places_in (T : TX K mg) : Callee P w K mg base (L2.CX P w) 6 "places_in" ["term"] (spPlacesIn K) := by
  obtain ⟨fd, F⟩ := F_places_in T
  refine callee_mk F (g_places_in T) (fun _ _ _ _ _ _ us hl => match us, hl with | [_], _ => rfl) ?_
  refine F.okX sc_places_in (fun vs H Q E h => by obtain ⟨v, rfl, _⟩ := h; rfl) fun cdv A outer s H vs Q E hr h => ?_
  obtain ⟨v, rfl, h⟩ := h
  refine ⟨_,
    --W places_in h_X.json
    (pss_cons (ps_expr (pe_fX (c_need_term T) hr (takes_of rfl rfl rfl rfl) (pa_cons pe_str (pa_cons (pv 0) pa_nil))))
    (pss_one (ps_ret (pe_callTy call_tuple_of (by rfl) (g_tuple T) PyProof.Rows.boot_tuple (pa_cons (pe_lc (own := [("place", 1), ("part", 2)]) (g := (gTup K 2 (gCons (gName 1) (gCons (gName 2) gNil)))) rfl sc_places_in.nd (pi_list (pe_f (c_all_parts T) hr (pa_cons (pv 0) pa_nil))) (blkOk_by (N := ["term", "place", "part"]) (sc := defScope s_places_in) (by decide +kernel)) (fun _ _ _ _ _ => (pg_tup rfl (pgs_cons (pg_name (i := 1) sc_places_in.nd rfl (by first | exact Or.inl rfl | exact Or.inr rfl)) (pgs_cons (pg_name (i := 2) sc_places_in.nd rfl (by first | exact Or.inl rfl | exact Or.inr rfl)) pgs_nil)))) (fun _ _ _ _ _ => pts_nil) (fun _ _ _ _ _ => (pv 1))) pa_nil)))))
    --/W
    , ?_⟩
  rcases h with ⟨t, hv, hz, hd, k⟩ | ⟨d, dd, hp, hf, k⟩
  · refine ⟨_, rfl, "term", v, t.data, rfl, hv.1, plain_data t hv.2, fun _ H1 s1 => ?_, fun hno => absurd (isTerm_data hv.2 hz hd) (by rw [hno]; decide)⟩
    have hv1 := TmAt.ten (Ten.of_same s1) hv
    refine ⟨_, rfl, v, t, rfl, hv1, by omega, by omega, fun f fs H2 s2 ef pf => ⟨f, rfl, ⟨fs, SqL.of ef⟩, fun D nD => ?_⟩⟩
    have hN := places_len t []
    have hl := pf.length
    refine lc_list (fun i H' => Same H2 H' ∧ ∃ acc, H' D = some (.lst acc) ∧ DpAll K H' acc (((t.places []).take i).map fun e => placeD e.1)) ⟨Same.new nD, [], upd_same, .nil⟩ (fun i H' _ h => SqL.of (h.1 _ _ ef)) ?_ ?_
    · rintro i x H3 hi ⟨s3, acc, eD, ia⟩
      obtain ⟨e, ee, a1, b1, v1, rfl, q1, q2, _⟩ := paired_get pf hi
      have t3 : Ten H2 H3 := Ten.of_same s3
      refine ⟨a1, [.ref b1, v1], rfl, t3.tup q1, rfl, .ref b1, _, rfl, v1, _, rfl, rfl, rfl, _, rfl, acc, eD, ?_, Same.trans_upd s3 nD, _, upd_same, ?_⟩
      · have h1 := dps_len ia
        rw [List.length_map, List.length_take] at h1
        exact small1000 (by omega)
      · have t4 : Ten H3 (upd H3 D (.lst (acc ++ [.ref b1]))) := Ten.set eD
        rw [List.take_add_one, ee, List.map_append]
        exact dps_append (ten_places t4 ia) (.cons (dp_place ((t3.trans t4).tup q2)) .nil)
    · rintro H3 ⟨s3, acc, eD, ia⟩
      rw [List.take_of_length_le (by omega)] at ia
      exact ⟨D, acc, rfl, .inl ⟨SqL.of eD, fun q nq => k q acc _ (((s1.trans s2).trans s3).trans (Same.new nq)) (SqT.of upd_same) (ten_places (Ten.new nq) ia)⟩⟩
  · exact ⟨_, rfl, "term", v, d, rfl, dd, hp, fun hy => absurd hy (by rw [hf]; decide), fun _ => k⟩
end
end K48
namespace K48
open PySem PySem.Spec PyProof.Rows L2 Tc
/-! part_by -/
section
variable {P : Program} {w : World} {K : PySem.W.Frag} {mg : Str → Option Value} {base : Heap}
theorem c_part_by (T : TX K mg) : Callee P w K mg base CX0 3 "part_by" ["term", "place"] (spPartBy K) := by
  obtain ⟨fd, F⟩ := F_part_by T
  refine callee_mk F (g_part_by T) (fun _ _ _ _ _ _ us hl => match us, hl with | [_, _], _ => rfl) ?_
  refine F.ok sc_part_by (fun vs H Q E h => by obtain ⟨v, x, t, d, rfl, _⟩ := h; rfl) fun cdv A outer s H vs Q E hr h => ?_
  obtain ⟨v, x, t, d, rfl, hv, hd, hp, k0, k1⟩ := h
  refine ⟨_,
    --W part_by h_partby.json
    (pss_cons (ps_if (pt_not (pt_val (pe_callB call_isi (by rfl) (g_isinstance T) PyProof.Rows.boot_isinstance (pa_cons (pv 1) (pa_cons (pe_bltn (v := .ty "tuple") (by rfl) (g_tuple T) PyProof.Rows.boot_tuple rfl) pa_nil)))))
    (pss_one (ps_ret pe_non))
    pss_nil)
    (pss_cons (ps_for PassesOwn.never rfl (pi_tup (pv 1)) (pg_name (i := 2) sc_part_by.nd rfl (by first | exact Or.inl rfl | exact Or.inr rfl))
    (pss_cons (ps_set (i := 3) sc_part_by.nd rfl (by first | exact Or.inl rfl | exact Or.inr rfl) (pe_f (c_inner_parts T) hr (pa_cons (pv 0) pa_nil)))
    (pss_cons (ps_if (pt_not (pt_val (pe_f (c_is_index T) hr (pa_cons (pv 2) (pa_cons (pe_callB (r := rLn K) call_ln (by rfl) (g_len T) PySem.boot_len (pa_cons (pv 3) pa_nil)) pa_nil)))))
    (pss_one (ps_ret pe_non))
    pss_nil)
    (pss_one (ps_set (i := 0) sc_part_by.nd rfl (by first | exact Or.inl rfl | exact Or.inr rfl) (pe_ix (r := rIx K) ix_seq (pv 3) (pv 2) (fun _ _ => rfl)))))))
    (pss_one (ps_ret (pv 0)))))
    --/W
    , ?_⟩
  refine ⟨_, rfl, _, .ty "tuple", _, _, _, rfl, .ty _, ty_dp hd, kit_tuple hp, _, rfl, ?_⟩
  cases hd with
  | non => exact iteT (k0 rfl H (Same.refl H))
  | bl b => exact iteT (k0 rfl H (Same.refl H))
  | int i => exact iteT (k0 rfl H (Same.refl H))
  | str x => exact iteT (k0 rfl H (Same.refl H))
  | lst q a => simp [Tc.plain] at hp
  | @tup p xs ds q a =>
    obtain ⟨hl, hpa⟩ := plain_tup hp
    have hlen := dps_len a
    refine iteF ⟨_, rfl, p, rfl, ⟨xs, q⟩, for_tup (fun i σ H' => ∃ (y : V) (u : Trm) (o2 o3 : Option V), σ = [some y, some (.ref p), o2, o3] ∧ Same H H' ∧ TmAt K H' y u ∧ partsD t ds = partsD u (ds.drop i)) ⟨v, t, none, none, rfl, Same.refl H, hv, by rw [List.drop_zero]⟩ (fun i σ H' _ h => by obtain ⟨y, u, o2, o3, rfl, s1, _⟩ := h; exact (Ten.of_same s1).tup q) ?_ ?_⟩
    · rintro i x σ H1 hi ⟨y, u, o2, o3, rfl, s1, hy, hpp⟩
      obtain ⟨d, ed, dx⟩ := dps_get a hi
      have hlt : i < ds.length := (List.getElem?_eq_some_iff.mp ed).1
      have edr : ds.drop i = d :: ds.drop (i + 1) := by
        rw [List.drop_eq_getElem_cons hlt]
        congr 1
        exact (List.getElem?_eq_some_iff.mp ed).2
      rw [edr, partsD] at hpp
      refine ⟨_, rfl, y, u, rfl, hy, fun q2 us H2 s2 hq hus => ?_⟩
      have g2 : LamX.ExtN H H2 := .of (s1.trans s2)
      have hul := hus.length
      refine ⟨_, rfl, _, rfl, q2, us, rfl, .inr hq, x, d, (us.length : Int), rfl, grow_dp g2 _ dx, plain_get hpa ed, _, rfl, ?_⟩
      have no : isIdx us.length d = false → partsD t ds = none := by
        intro hno
        have e0 : stepD u d = none := by
          cases d with
          | int i2 =>
            simp only [isIdx, Bool.and_eq_false_iff, decide_eq_false_iff_not] at hno
            show (if 0 ≤ i2 then u.parts[i2.toNat]? else none) = none
            split
            · exact List.getElem?_eq_none_iff.mpr (by omega)
            · rfl
          | _ => rfl
        rw [hpp, e0]
      cases hb : isIdx us.length d with
      | false => exact iteT (k0 (no hb) H2 (s1.trans s2))
      | true =>
        refine iteF ?_
        cases dx with
        | int i2 =>
          simp only [isIdx, Bool.and_eq_true, decide_eq_true_eq] at hb
          have e1 : us[i2.toNat]? = some us[i2.toNat] := List.getElem?_eq_getElem (by omega)
          obtain ⟨u2, eu, hu2⟩ := paired_get hus e1
          have hpp2 : partsD t ds = partsD u2 (ds.drop (i + 1)) := by
            have e0 : stepD u (.int i2) = some u2 := by
              show (if 0 ≤ i2 then u.parts[i2.toNat]? else none) = _
              rw [if_pos hb.1, eu]
            rw [hpp, e0]
          exact ⟨_, rfl, _, rfl, .inr (.inl ⟨q2, us, i2, us[i2.toNat], rfl, rfl, hq, at_of (j := i2.toNat) (by omega) e1, us[i2.toNat], u2, _, _, rfl, s1.trans s2, hu2, hpp2⟩)⟩
        | _ => exact absurd hb (by simp [isIdx])
    · rintro σ H1 ⟨y, u, o2, o3, rfl, s1, hy, hpp⟩
      rw [hlen, List.drop_length, partsD] at hpp
      exact ⟨_, rfl, k1 u hpp y H1 s1 hy⟩
end
end K48
namespace K48
open PySem PySem.Spec PyProof.Rows L2 Tc
/-! need_part -/
section
variable {P : Program} {w : World} {K : PySem.W.Frag} {mg : Str → Option Value} {base : Heap}
theorem c_need_part (T : TX K mg) : Callee P w K mg base (L2.CX P w) 6 "need_part" ["term", "place"] (spNeedPart K) := by
  obtain ⟨fd, F⟩ := F_need_part T
  refine callee_mk F (g_need_part T) (fun _ _ _ _ _ _ us hl => match us, hl with | [_, _], _ => rfl) ?_
  refine F.okX sc_need_part (fun vs H Q E h => by obtain ⟨v, x, rfl, _⟩ := h; rfl) fun cdv A outer s H vs Q E hr h => ?_
  obtain ⟨v, x, rfl, h⟩ := h
  refine ⟨_,
    --W need_part h_X.json
    (pss_cons (ps_expr (pe_fX (c_need_term T) hr (takes_of rfl rfl rfl rfl) (pa_cons pe_str (pa_cons (pv 0) pa_nil))))
    (pss_cons (ps_set (i := 2) sc_need_part.nd rfl (by first | exact Or.inl rfl | exact Or.inr rfl) (pe_ifExp (pt_val (pe_callB call_isi (by rfl) (g_isinstance T) PyProof.Rows.boot_isinstance (pa_cons (pv 1) (pa_cons (pe_bltn (v := .ty "list") (by rfl) (g_list T) PyProof.Rows.boot_list rfl) pa_nil)))) (pe_callTy call_tuple_of (by rfl) (g_tuple T) PyProof.Rows.boot_tuple (pa_cons (pv 1) pa_nil)) (pv 1)))
    (pss_cons (ps_if (pt_cmpR op_isN (pe_f (c_part_by T) hr (pa_cons (pv 0) (pa_cons (pv 2) pa_nil))) pe_non (nomark _))
    (pss_one (ps_raise rfl (takes_of rfl rfl rfl rfl) (pmk_f (i_BadRow T) hr (pa_cons pe_str (pa_cons (pv 1) pa_nil)) (mo_c (mo_var mo_nil)))))
    pss_nil)
    (pss_one (ps_ret (pv 2))))))
    --/W
    , ?_⟩
  rcases h with ⟨b, dd, hp, hf, k⟩ | ⟨t, d, hv, hz, hd, hg, k0, k1⟩
  · exact ⟨_, rfl, "term", v, b, rfl, dd, hp, fun hy => absurd hy (by rw [hf]; decide), fun _ => k⟩
  · refine ⟨_, rfl, "term", v, t.data, rfl, hv.1, plain_data t hv.2, fun _ H1 s1 => ?_, fun hno => absurd (isTerm_data hv.2 hz hd) (by rw [hno]; decide)⟩
    have hv1 := TmAt.ten (Ten.of_same s1) hv
    rcases hg with ⟨hx, hpx⟩ | ⟨l, pl, rfl, el, hpl, rfl⟩
    · have hx1 := ten_dp (Ten.of_same s1) _ hpx hx
      refine ⟨_, rfl, _, .ty "list", _, _, _, rfl, .ty _, ty_dp hx1, kit_list hpx, _, rfl, iteF ⟨_, rfl, ?_⟩⟩
      refine ⟨_, rfl, _, rfl, v, x, t, d, rfl, hv1, hx1, hpx, fun hno H2 s2 => ?_, fun u hu y H2 s2 hy => ?_⟩
      · exact ⟨rfl, _, rfl, if_yes (by simp) ⟨_, rfl, rfl, by decide, fun e H3 ne ee s3 => k0 hno e H3 ((s1.trans s2).trans s3) ee⟩⟩
      · refine ⟨rfl, _, rfl, if_no ?_ ⟨_, rfl, k1 u hu x H2 (s1.trans s2) (ten_dp (Ten.of_same s2) _ hpx hx1) hpx⟩⟩
        obtain ⟨p, xs, ey, _⟩ := top_of (h := u.hd) (ks := u.kids) (by cases u; exact hy)
        rw [ey]
        simp
    · have el1 := s1 _ _ el
      refine ⟨_, rfl, _, .ty "list", _, _, true, rfl, .ty _, .base (.lst el1), kit_ty (by decide +kernel), _, rfl, iteT ⟨_, rfl, l, _, rfl, .inl ⟨SqL.of el1, fun q nq => ?_⟩⟩⟩
      have s2 : Same H1 (upd H1 q (.tup (pl.map V.int))) := Same.new nq
      have dq : Dp K (upd H1 q (.tup (pl.map V.int))) (.ref q) (placeD pl) := dp_place (SqT.of upd_same)
      generalize upd H1 q (.tup (pl.map V.int)) = H2 at s2 dq ⊢
      refine ⟨_, rfl, _, rfl, v, .ref q, t, placeD pl, rfl, TmAt.ten (Ten.of_same s2) hv1, dq, place_plain hpl, fun hno H3 s3 => ?_, fun u hu y H3 s3 hy => ?_⟩
      · exact ⟨rfl, _, rfl, if_yes (by simp) ⟨_, rfl, rfl, by decide, fun e H4 ne ee s4 => k0 hno e H4 (((s1.trans s2).trans s3).trans s4) ee⟩⟩
      · refine ⟨rfl, _, rfl, if_no ?_ ⟨_, rfl, k1 u hu _ H3 ((s1.trans s2).trans s3) (ten_dp (Ten.of_same s3) _ (place_plain hpl) dq) (place_plain hpl)⟩⟩
        obtain ⟨p, xs, ey, _⟩ := top_of (h := u.hd) (ks := u.kids) (by cases u; exact hy)
        rw [ey]
        simp
end
end K48
namespace K48
open PySem PySem.Spec PyProof.Rows L2 Tc
/-! part_at -/
section
variable {P : Program} {w : World} {K : PySem.W.Frag} {mg : Str → Option Value} {base : Heap}
theorem c_part_at (T : TX K mg) : Callee P w K mg base (L2.CX P w) 7 "part_at" ["term", "place"] (spPartAt K) := by
  obtain ⟨fd, F⟩ := F_part_at T
  refine callee_mk F (g_part_at T) (fun _ _ _ _ _ _ us hl => match us, hl with | [_, _], _ => rfl) ?_
  refine F.okX sc_part_at (fun vs H Q E h => by obtain ⟨v, x, rfl, _⟩ := h; rfl) fun cdv A outer s H vs Q E hr h => ?_
  obtain ⟨v, x, rfl, h⟩ := h
  refine ⟨_,
    --W part_at h_X.json
    (pss_cons (ps_set (i := 2) sc_part_at.nd rfl (by first | exact Or.inl rfl | exact Or.inr rfl) (pe_fX (c_need_part T) hr (takes_of rfl rfl rfl rfl) (pa_cons (pv 0) (pa_cons (pv 1) pa_nil))))
    (pss_one (ps_ret (pe_f (c_part_by T) hr (pa_cons (pv 0) (pa_cons (pv 2) pa_nil))))))
    --/W
    , ?_⟩
  rcases h with ⟨b, dd, hp, hf, k⟩ | ⟨t, d, hv, hz, hd, hg, k0, k1⟩
  · exact ⟨_, rfl, _, rfl, v, x, rfl, .inl ⟨b, dd, hp, hf, k⟩⟩
  · refine ⟨_, rfl, _, rfl, v, x, rfl, .inr ⟨t, d, hv, hz, hd, hg, k0, fun u hu y H1 s1 hy hpy => ?_⟩⟩
    exact ⟨_, rfl, _, rfl, v, y, t, d, rfl, TmAt.ten (Ten.of_same s1) hv, hy, hpy, fun hno => absurd (hu.symm.trans hno) (by simp), fun u2 hu2 z H2 s2 hz2 => by
      have e := Option.some.inj (hu.symm.trans hu2)
      subst e
      exact k1 u hu z H2 (s1.trans s2) hz2⟩
end
end K48
namespace K48
open PySem PySem.Spec PyProof.Rows L2 Tc
/-! with_by -/
section
variable {P : Program} {w : World} {K : PySem.W.Frag} {mg : Str → Option Value} {base : Heap}
theorem c_with_by (T : TX K mg) : ∀ n : Nat, Callee P w K mg base CX0 (n + 1) "with_by" ["term", "place", "other"] (spWithBy K n)
  | 0 => by
    obtain ⟨fd, F⟩ := F_with_by T
    exact callee_mk F (g_with_by T) (fun _ _ _ _ _ _ us hl => match us, hl with | [_, _, _], _ => rfl) ⟨fun _ _ _ _ h => h.elim, fun _ _ _ _ _ _ _ _ _ _ _ _ _ h => h.elim⟩
  | n + 1 => by
    have ih := c_with_by T n
    obtain ⟨fd, F⟩ := F_with_by T
    refine callee_mk F (g_with_by T) (fun _ _ _ _ _ _ us hl => match us, hl with | [_, _, _], _ => rfl) ?_
    refine F.ok sc_with_by (fun vs H Q E h => by obtain ⟨v, x, y, _, _, _, rfl, _⟩ := h; rfl) fun cdv A outer s H vs Q E hr h => ?_
    obtain ⟨v, x, y, t, o, pl, rfl, hv, hx, hy, hl, hsome, k⟩ := h
    refine ⟨_,
    --W with_by h_withby.json
    (pss_cons (ps_if (pt_not (pt_truth (pv 1) (by intro _; rfl)))
    (pss_one (ps_ret (pv 2)))
    pss_nil)
    (pss_cons (ps_set (i := 3) sc_with_by.nd rfl (by first | exact Or.inl rfl | exact Or.inr rfl) (pe_callTy call_list_of (by rfl) (g_list T) PyProof.Rows.boot_list (pa_cons (pe_f (c_inner_parts T) hr (pa_cons (pv 0) pa_nil) (by omega)) pa_nil)))
    (pss_cons (ps_asg (pe_f ih hr (pa_cons (pe_ix (r := rIx K) ix_seq (pv 3) (pe_ix (r := rIx K) ix_seq (pv 1) pe_int (fun _ _ => rfl)) (fun _ _ => rfl)) (pa_cons (pe_slice (r := rSlA K) sl_tupA (pv 1) (po_some pe_int) po_none) (pa_cons (pv 2) pa_nil))) (by omega)) (pg_sub (pv 3) (pe_ix (r := rIx K) ix_seq (pv 1) pe_int (fun _ _ => rfl)) set_list (fun _ => rfl)))
    (pss_one (ps_ret (pe_ifExp (pt_cmpR op_eq (pe_ix (r := rIx K) ix_seq (pv 0) pe_int (fun _ _ => rfl)) pe_str (nomark _)) (pe_tup (pa_cons pe_str (pa_cons (pe_ix (r := rIx K) ix_seq (pv 0) pe_int (fun _ _ => rfl)) (pa_cons (pe_callTy call_tuple_of (by rfl) (g_tuple T) PyProof.Rows.boot_tuple (pa_cons (pv 3) pa_nil)) pa_nil)))) (pe_tup (pa_cons (pe_ix (r := rIx K) ix_seq (pv 0) pe_int (fun _ _ => rfl)) (pa_starK (K := K) rfl (pv 3) pa_nil)))))))))
    --/W
    , ?_⟩
    obtain ⟨p, rfl, hq⟩ := hx
    refine ⟨_, rfl, !(pl.map V.int).isEmpty, .inr (.inl ⟨_, hq, rfl⟩), ?_⟩
    cases pl with
    | nil => exact iteT ⟨_, rfl, k y H (Same.refl H) (by rw [Tc.putAt]; exact hy)⟩
    | cons i is =>
      obtain ⟨u, eu⟩ := Option.isSome_iff_exists.mp hsome
      obtain ⟨h0, w', ew, e2⟩ := partAt_cons eu
      refine iteF ⟨_, rfl, v, t, rfl, hv, fun q us H1 s1 hq1 hus => ⟨q, us, rfl, .inr hq1, fun l nl => ?_⟩⟩
      have s2 : Same H1 (upd H1 l (.lst us)) := Same.new nl
      have eL2 : upd H1 l (.lst us) l = some (.lst us) := upd_same
      have hus2 := tms_ten (Ten.of_same s2) hus
      have s02 := s1.trans s2
      have nlH : H l = none := s1.free nl
      generalize upd H1 l (.lst us) = H2 at s2 eL2 hus2 s02 ⊢
      have hul := hus2.length
      have hlt : i.toNat < us.length := by rw [hul]; exact (List.getElem?_eq_some_iff.mp ew).1
      have e1 : us[i.toNat]? = some us[i.toNat] := List.getElem?_eq_getElem hlt
      obtain ⟨u2, eu2, hu2⟩ := paired_get hus2 e1
      rw [ew] at eu2
      cases eu2
      have q2 := (Ten.of_same s02).tup hq
      obtain _ | m := n
      · simp at hl
      refine ⟨_, rfl, _, rfl, .inr (.inl ⟨p, _, 0, .int i, rfl, rfl, q2, at_of (j := 0) (by simp) rfl, .inl ⟨l, us, i, us[i.toNat], rfl, rfl, SqL.of eL2, at_of (j := i.toNat) (by omega) e1, ?_⟩⟩)⟩
      refine rd_tail (K := K) (j := 1) rfl q2 fun r nr => ⟨_, rfl, us[i.toNat], .ref r, y, w', o, is, rfl, ?_⟩
      have s3 : Same H2 (upd H2 r (.tup (is.map V.int))) := Same.new nr
      have s03 := s02.trans s3
      have t3 := Ten.of_same s3
      refine ⟨TmAt.ten t3 hu2, ⟨r, rfl, SqT.of upd_same⟩, TmAt.ten (Ten.of_same s03) hy, by simpa using hl, by rw [e2]; rfl, fun z H4 s4 hz => ?_⟩
      have s04 := s03.trans s4
      have eL4 := s4 _ _ (s3 _ _ eL2)
      have q4 := (Ten.of_same s04).tup hq
      have hus4 := tms_ten (t3.trans (Ten.of_same s4)) hus2
      have hv4 := TmAt.ten (Ten.of_same s04) hv
      refine ⟨_, rfl, _, rfl, .inr (.inl ⟨p, _, 0, .int i, rfl, rfl, q4, at_of (j := 0) (by simp) rfl, l, us, i, i.toNat, rfl, rfl, eL4, ?_, ?_⟩)⟩
      · exact ixN_at h0 hlt
      have t5 : Ten H4 (upd H4 l (.lst (us.set i.toNat z))) := Ten.set eL4
      have s05 : Same H (upd H4 l (.lst (us.set i.toNat z))) := Same.trans_upd s04 nlH
      have eL5 : upd H4 l (.lst (us.set i.toNat z)) l = some (.lst (us.set i.toNat z)) := upd_same
      generalize upd H4 l (.lst (us.set i.toNat z)) = H5 at t5 s05 eL5 ⊢
      have hus5 := paired_set (tms_ten t5 hus4) (TmAt.ten t5 hz) (i := i.toNat)
      have hv5 := TmAt.ten t5 hv4
      obtain ⟨h, ks⟩ := t
      obtain ⟨ho, ek⟩ := opens_of_parts ew
      have ep : (Trm.mk h ks).parts = ks := by
        unfold Trm.parts Trm.hd Trm.kids
        dsimp only
        rw [if_pos ho]
      rw [ep] at hus5
      rw [putAt_step ek] at k
      obtain ⟨p0, xs, rfl, hq5, ha5⟩ := top_of hv5
      have at0 : atI (.str h.word :: xs) 0 = some (.str h.word) := at_of (j := 0) (by simp) rfl
      have hok : (Trm.mk h (ks.set i.toNat (Tc.putAt w' is o))).ok = true := by
        rw [← putAt_step ek]
        exact putAt_ok eu hv.2 hy.2
      refine ts_word rfl hq5 at0 (fun hc => iteT ?_) (fun hc => iteF ?_)
      · obtain ⟨f, rfl⟩ := word_call hc
        · obtain ⟨x1, xs1, d1, ds1, rfl, e1, a1, a, hl1⟩ := dps_succ (n := 1) ha5 (by rw [dps_len ha5]; rfl)
          obtain ⟨rfl, _⟩ := List.cons.inj e1
          cases a1
          refine rd_ix rfl hq5 (at_of (j := 1) (by simp) rfl) ⟨_, rfl, l, _, rfl, .inl ⟨SqL.of eL5, fun l6 nl6 => ?_⟩⟩
          have s6 : Same H5 (upd H5 l6 (.tup (us.set i.toNat z))) := Same.new nl6
          refine ⟨Nat.le_of_lt (small1000 (by simp)), fun p7 np7 => k _ _ ((s05.trans s6).trans (Same.new np7)) ⟨?_, hok⟩⟩
          have t7 := (Ten.of_same s6).trans (Ten.new (u := .tup [.str "call", .str f, .ref l6]) np7)
          exact .tup (SqT.of upd_same) (.cons (.str _) (.cons (.str f) (.cons (.tup ((Ten.new np7).tup (SqT.of upd_same)) (tms_dps (tms_ten t7 hus5))) .nil)))
      · refine rd_ix rfl hq5 at0 ⟨_, rfl, l, _, rfl, .inr (SqL.of eL5), ?_⟩
        show (V.str h.word :: (us.set i.toNat z ++ [])).length ≤ sizeLine ∧ ∀ (p : Addr), H5 p = none → Q (V.ref p) (upd H5 p (HO.tup (V.str h.word :: (us.set i.toNat z ++ []))))
        rw [List.append_nil]
        refine ⟨Nat.le_of_lt (small1000 ?_), fun p7 np7 => k _ _ (s05.trans (Same.new np7)) ⟨?_, hok⟩⟩
        · rw [List.length_cons, List.length_set, hul]
          have h1 := innerD_len (inner_data hv.2)
          have h2 := parts_len (.mk h ks)
          rw [datas_len] at h1
          omega
        · rw [data_tail ho hc]
          exact .tup (SqT.of upd_same) (.cons (.str _) (tms_dps (tms_ten (Ten.new np7) hus5)))
end
end K48
namespace K48
open PySem PySem.Spec PyProof.Rows L2 Tc
/-! with_part -/
section
variable {P : Program} {w : World} {K : PySem.W.Frag} {mg : Str → Option Value} {base : Heap}
theorem c_with_part (T : TX K mg) : Callee P w K mg base (L2.CX P w) 29 "with_part" ["term", "place", "other"] (spWithPart K) := by
  obtain ⟨fd, F⟩ := F_with_part T
  refine callee_mk F (g_with_part T) (fun _ _ _ _ _ _ us hl => match us, hl with | [_, _, _], _ => rfl) ?_
  refine F.okX sc_with_part (fun vs H Q E h => by obtain ⟨v, x, y, rfl, _⟩ := h; rfl) fun cdv A outer s H vs Q E hr h => ?_
  obtain ⟨v, x, y, rfl, h⟩ := h
  refine ⟨_,
    --W with_part h_withpart.json
    (pss_cons (ps_set (i := 3) sc_with_part.nd rfl (by first | exact Or.inl rfl | exact Or.inr rfl) (pe_fX (c_need_part T) hr (takes_of rfl rfl rfl rfl) (pa_cons (pv 0) (pa_cons (pv 1) pa_nil))))
    (pss_cons (ps_expr (pe_fX (c_need_term T) hr (takes_of rfl rfl rfl rfl) (pa_cons pe_str (pa_cons (pv 2) pa_nil))))
    (pss_one (ps_ret (pe_f (c_need_small T) hr (pa_cons (pe_f (c_with_by T 24) hr (pa_cons (pv 0) (pa_cons (pv 3) (pa_cons (pv 2) pa_nil)))) pa_nil))))))
    --/W
    , ?_⟩
  rcases h with ⟨b, dd, hp, hf, k⟩ | ⟨t, d, hv, hz, hd, hg, h⟩
  · exact ⟨_, rfl, _, rfl, v, x, rfl, .inl ⟨b, dd, hp, hf, k⟩⟩
  · refine ⟨_, rfl, _, rfl, v, x, rfl, .inr ⟨t, d, hv, hz, by omega, hg, fun hno => ?_, fun u hu x1 H1 s1 hx1 hpx => ?_⟩⟩
    · rcases h with ⟨_, r⟩ | ⟨pl, u, rfl, hu, _⟩
      · exact r
      · rw [show partD t (placeD pl) = partAt t pl from partsD_ints, hu] at hno
        cases hno
    · rcases h with ⟨hno, _⟩ | ⟨pl, u', rfl, hu', h⟩
      · rw [hu] at hno
        cases hno
      · rcases h with ⟨e, de, hpe, hfe, r⟩ | ⟨o, ho, hoz, hod, hz2, hd2, k⟩
        · exact ⟨_, rfl, "other", y, e, rfl, ten_dp (Ten.of_same s1) _ hpe de, hpe, fun z => absurd z (by rw [hfe]; decide), fun _ => r.same s1⟩
        · have ho1 := TmAt.ten (Ten.of_same s1) ho
          refine ⟨_, rfl, "other", y, o.data, rfl, ho1.1, plain_data o ho1.2, fun _ H2 s2 => ?_, fun hno => absurd (isTerm_data ho1.2 hoz hod) (by rw [hno]; decide)⟩
          have s02 := s1.trans s2
          have hsm := partAt_small hu'
          have hsp := deep_kids u'
          refine ⟨_, rfl, _, rfl, _, rfl, v, x1, y, t, o, pl, rfl, TmAt.ten (Ten.of_same s02) hv, place_of (ten_dp (Ten.of_same s2) _ hpx hx1), TmAt.ten (Ten.of_same s02) ho, (show pl.length ≤ 23 by omega), by rw [hu']; rfl, fun z H3 s3 hz3 => ?_⟩
          exact ⟨z, _, rfl, hz3, hz2, hd2, fun H4 s4 => k z H4 ((s02.trans s3).trans s4) (TmAt.ten (Ten.of_same s4) hz3)⟩
end
end K48
namespace K48
open PySem PySem.Spec PyProof.Rows L2 Tc
/-! _law_n, _law_p -/
def spLawN (K : PySem.W.Frag) : Sp := fun vs H Q _ => ∃ x : Str, vs = [.str x] ∧ nameOk x = true ∧ ∀ (z : V) (H' : Hp), Same H H' → TmAt K H' z (.mk (.nm x) []) → Q z H'
def spLawP (K : PySem.W.Frag) : Sp := fun vs H Q _ => ∃ (x y : V) (a b : Trm), vs = [x, y] ∧ TmAt K H x a ∧ TmAt K H y b ∧ ∀ (z : V) (H' : Hp), Same H H' → TmAt K H' z (.mk .pair [a, b]) → Q z H'
section
variable {P : Program} {w : World} {K : PySem.W.Frag} {mg : Str → Option Value} {base : Heap}
theorem c_law_n (T : TX K mg) : Callee P w K mg base CX0 1 "_law_n" ["name"] (spLawN K) := by
  obtain ⟨fd, F⟩ := F_law_n T
  refine callee_mk F (g_law_n T) (fun _ _ _ _ _ _ us hl => match us, hl with | [_], _ => rfl) ?_
  refine F.ok sc_law_n (fun vs H Q E h => by obtain ⟨x, rfl, _⟩ := h; rfl) fun cdv A outer s H vs Q E hr h => ?_
  obtain ⟨x, rfl, hx, k⟩ := h
  refine ⟨_,
    --W _law_n 
    (pss_one (ps_ret (pe_tup (pa_cons pe_str (pa_cons (pv 0) pa_nil)))))
    --/W
    , ?_⟩
  refine ⟨_, rfl, Nat.le_of_lt (small1000 (by simp)), fun p np => k (.ref p) _ (Same.new np) ⟨?_, ?_⟩⟩
  · exact .tup (SqT.of upd_same) (.cons (.str _) (.cons (.str x) .nil))
  · show (fits (.nm x) 0 && oks []) = true
    simp [fits, hx, oks]
theorem c_law_p (T : TX K mg) : Callee P w K mg base CX0 1 "_law_p" ["one", "other"] (spLawP K) := by
  obtain ⟨fd, F⟩ := F_law_p T
  refine callee_mk F (g_law_p T) (fun _ _ _ _ _ _ us hl => match us, hl with | [_, _], _ => rfl) ?_
  refine F.ok sc_law_p (fun vs H Q E h => by obtain ⟨x, y, a, b, rfl, _⟩ := h; rfl) fun cdv A outer s H vs Q E hr h => ?_
  obtain ⟨x, y, a, b, rfl, hx, hy, k⟩ := h
  refine ⟨_,
    --W _law_p 
    (pss_one (ps_ret (pe_tup (pa_cons pe_str (pa_cons (pv 0) (pa_cons (pv 1) pa_nil))))))
    --/W
    , ?_⟩
  refine ⟨_, rfl, _, rfl, Nat.le_of_lt (small1000 (by simp)), fun p np => k (.ref p) _ (Same.new np) ⟨?_, ?_⟩⟩
  · have t1 : Ten H (upd H p (.tup [.str "pair", x, y])) := Ten.new np
    exact .tup (SqT.of upd_same) (.cons (.str _) (.cons (TmAt.ten t1 hx).1 (.cons (TmAt.ten t1 hy).1 .nil)))
  · show (fits .pair 2 && (a.ok && (b.ok && oks []))) = true
    simp [fits, hx.2, hy.2, oks]
end
/-! _law_nil, _law_c -/
section
variable {P : Program} {w : World} {K : PySem.W.Frag} {mg : Str → Option Value} {base : Heap}
theorem c_law_nil (T : TX K mg) : Callee P w K mg base CX0 1 "_law_nil" [] (spLawNil K) := by
  obtain ⟨fd, F⟩ := F_law_nil T
  refine callee_mk F (g_law_nil T) (fun _ _ _ _ _ _ us hl => match us, hl with | [], _ => rfl) ?_
  refine F.ok sc_law_nil (fun vs H Q E h => by obtain ⟨rfl, _⟩ := h; rfl) fun cdv A outer s H vs Q E hr h => ?_
  obtain ⟨rfl, k⟩ := h
  refine ⟨_,
    --W _law_nil 
    (pss_one (ps_ret (pe_tup (pa_cons pe_str pa_nil))))
    --/W
    , ?_⟩
  refine ⟨Nat.le_of_lt (small1000 (by simp)), fun p np => k (.ref p) _ (Same.new np) ⟨?_, by decide⟩⟩
  exact .tup (SqT.of upd_same) (.cons (.str _) .nil)
theorem c_law_c (T : TX K mg) : Callee P w K mg base CX0 1 "_law_c" ["name", "terms"] (spLawC K) := by
  obtain ⟨fd, F⟩ := F_law_c T
  refine callee_mk F (g_law_c T) (fun _ _ _ _ _ _ us hl => match us, hl with | [_, _], _ => rfl) ?_
  refine F.ok sc_law_c (fun vs H Q E h => by obtain ⟨x, l, us, ts, rfl, _⟩ := h; rfl) fun cdv A outer s H vs Q E hr h => ?_
  obtain ⟨x, l, us, ts, rfl, hx, eL, hus, hlen, k⟩ := h
  refine ⟨_,
    --W _law_c 
    (pss_one (ps_ret (pe_tup (pa_cons pe_str (pa_cons (pv 0) (pa_cons (pe_callTy call_tuple_of (by rfl) (g_tuple T) PyProof.Rows.boot_tuple (pa_cons (pv 1) pa_nil)) pa_nil))))))
    --/W
    , ?_⟩
  refine ⟨_, rfl, _, rfl, l, _, rfl, .inl ⟨SqL.of eL, fun q nq => ?_⟩⟩
  have s1 : Same H (upd H q (.tup us)) := Same.new nq
  refine ⟨Nat.le_of_lt (small1000 (by simp)), fun p np => k (.ref p) _ (s1.trans (Same.new np)) ⟨?_, ?_⟩⟩
  · have t1 := (Ten.of_same s1).trans (Ten.new (u := .tup [.str "call", .str x, .ref q]) np)
    exact .tup (SqT.of upd_same) (.cons (.str _) (.cons (.str x) (.cons (.tup ((Ten.new np).tup (SqT.of upd_same)) (tms_dps (tms_ten t1 hus))) .nil)))
  · show (fits (.call x) ts.length && oks ts) = true
    rw [tms_ok hus]
    simp [fits, hx, hlen]
end
end K48
namespace K48
open PySem PySem.Spec PyProof.Rows L2 Tc
/-! _law_drawn_term -/
section
variable {P : Program} {w : World} {K : PySem.W.Frag} {mg : Str → Option Value} {base : Heap}
theorem c_law_drawn_term (T : TX K mg) : ∀ n : Nat, Callee P w K mg base CX0 (n + 2) "_law_drawn_term" ["pen", "names", "calls", "deep"] (spDrawn K n)
  | 0 => by
    obtain ⟨fd, F⟩ := F_law_drawn_term T
    exact callee_mk F (g_law_drawn_term T) (fun _ _ _ _ _ _ us hl => match us, hl with | [_, _, _, _], _ => rfl) ⟨fun _ _ _ _ h => h.elim, fun _ _ _ _ _ _ _ _ _ _ _ _ _ h => h.elim⟩
  | n + 1 => by
    have ih := c_law_drawn_term T n
    obtain ⟨fd, F⟩ := F_law_drawn_term T
    refine callee_mk F (g_law_drawn_term T) (fun _ _ _ _ _ _ us hl => match us, hl with | [_, _, _, _], _ => rfl) ?_
    refine F.ok sc_law_drawn_term (fun vs H Q E h => by obtain ⟨p, c, ln, lc, ns, cs, d, rfl, _⟩ := h; rfl) fun cdv A outer s H vs Q E hr h => ?_
    obtain ⟨p, c, ln, lc, ns, cs, d, rfl, hd, hp, en, hns, hnl, hcs, gcs, k⟩ := h
    have hu := hr.units
    refine ⟨_,
    --W _law_drawn_term h_drawn.json
    (pss_cons (ps_set (i := 4) sc_law_drawn_term.nd rfl (by first | exact Or.inl rfl | exact Or.inr rfl) (pe_f (c_law_draw T) hr (pa_cons (pv 0) (pa_cons pe_int pa_nil)) (by omega)))
    (pss_cons (ps_if (pw_or (pt_cmpR op_eq (pv 3) pe_int (nomark _)) (pw_or1 (pt_cmpR op_lt (pv 4) pe_int (nomark _)))).pt
    (pss_one (ps_ret (pe_f (c_law_pick T) hr (pa_cons (pv 0) (pa_cons (pe_op op_cat (pe_lst (pa_cons (pe_f0 (c_law_nil T) hr (by omega)) pa_nil)) (pe_op op_rep (pe_lc (own := [("name", 5)]) (g := gName 5) rfl sc_law_drawn_term.nd (pi_list (pv 1)) (blkOk_by (N := ["pen", "names", "calls", "deep", "way", "name", "turn", "parts", "many"]) (sc := defScope s_law_drawn_term) (by decide +kernel)) (fun _ _ _ _ _ => (pg_name (i := 5) sc_law_drawn_term.nd rfl (by first | exact Or.inl rfl | exact Or.inr rfl))) (fun _ _ _ _ _ => pts_nil) (fun _ _ _ _ _ => (pe_f (c_law_n T) hr (pa_cons (pv 5) pa_nil) (by omega)))) pe_int)) pa_nil)) (by omega))))
    pss_nil)
    (pss_cons (ps_if (pw_or (pt_cmpR op_lt (pv 4) pe_int (nomark _)) (pw_or1 (pt_cmpR (op_eqD hu) (pv 2) (pe_lst pa_nil) (nomark _)))).pt
    (pss_one (ps_ret (pe_f (c_law_p T) hr (pa_cons (pe_f ih hr (pa_cons (pv 0) (pa_cons (pv 1) (pa_cons (pv 2) (pa_cons (pe_op op_sub (pv 3) pe_int) pa_nil)))) (by omega)) (pa_cons (pe_f ih hr (pa_cons (pv 0) (pa_cons (pv 1) (pa_cons (pv 2) (pa_cons (pe_op op_sub (pv 3) pe_int) pa_nil)))) (by omega)) pa_nil)) (by omega))))
    pss_nil)
    (pss_cons (ps_if (pt_cmpR op_eq (pv 4) pe_int (nomark _))
    (pss_cons (ps_setLc (i := 7) (own := [("turn", 6)]) (g := gName 6) rfl sc_law_drawn_term.nd rfl rfl (by rfl) (pi_range1 (by rfl) (g_range T) (pa_cons pe_int pa_nil)) (blkOk_by (N := ["pen", "names", "calls", "deep", "way", "name", "turn", "parts", "many"]) (sc := defScope s_law_drawn_term) (by decide +kernel)) (fun _ _ _ _ _ => (pg_name (i := 6) sc_law_drawn_term.nd rfl (by first | exact Or.inl rfl | exact Or.inr rfl))) (fun _ _ _ _ _ => pts_nil) (fun _ _ _ _ _ => (pe_f ih hr (pa_cons (pv 0) (pa_cons (pv 1) (pa_cons (pe_lst pa_nil) (pa_cons (pe_op op_sub (pv 3) pe_int) pa_nil)))) (by omega))))
    (pss_one (ps_ret (pe_op op_catA (pe_tup (pa_cons pe_str pa_nil)) (pe_callTy call_tuple_of (by rfl) (g_tuple T) PyProof.Rows.boot_tuple (pa_cons (pe_op op_cat (pv 7) (pe_lc (own := [("turn", 6)]) (g := gName 6) rfl sc_law_drawn_term.nd (pi_range1 (by rfl) (g_range T) (pa_cons pe_int pa_nil)) (blkOk_by (N := ["pen", "names", "calls", "deep", "way", "name", "turn", "parts", "many"]) (sc := defScope s_law_drawn_term) (by decide +kernel)) (fun _ _ _ _ _ => (pg_name (i := 6) sc_law_drawn_term.nd rfl (by first | exact Or.inl rfl | exact Or.inr rfl))) (fun _ _ _ _ _ => pts_nil) (fun _ _ _ _ _ => (pe_f ih hr (pa_cons (pv 0) (pa_cons (pv 1) (pa_cons (pv 2) (pa_cons (pe_op op_sub (pv 3) pe_int) pa_nil)))) (by omega))))) pa_nil))))))
    pss_nil)
    (pss_cons (ps_asg (pe_f (c_law_pick T) hr (pa_cons (pv 0) (pa_cons (pv 2) pa_nil)) (by omega)) (pg_tup rfl (pgs_cons (pg_name (i := 5) sc_law_drawn_term.nd rfl (by first | exact Or.inl rfl | exact Or.inr rfl)) (pgs_cons (pg_name (i := 8) sc_law_drawn_term.nd rfl (by first | exact Or.inl rfl | exact Or.inr rfl)) pgs_nil))))
    (pss_one (ps_ret (pe_f (c_law_c T) hr (pa_cons (pv 5) (pa_cons (pe_lc (own := [("turn", 6)]) (g := gName 6) rfl sc_law_drawn_term.nd (pi_range1 (by rfl) (g_range T) (pa_cons (pv 8) pa_nil)) (blkOk_by (N := ["pen", "names", "calls", "deep", "way", "name", "turn", "parts", "many"]) (sc := defScope s_law_drawn_term) (by decide +kernel)) (fun _ _ _ _ _ => (pg_name (i := 6) sc_law_drawn_term.nd rfl (by first | exact Or.inl rfl | exact Or.inr rfl))) (fun _ _ _ _ _ => pts_nil) (fun _ _ _ _ _ => (pe_f ih hr (pa_cons (pv 0) (pa_cons (pv 1) (pa_cons (pv 2) (pa_cons (pe_op op_sub (pv 3) pe_int) pa_nil)))) (by omega)))) pa_nil)) (by omega)))))))))
    --/W
    , ?_⟩
    refine ⟨_, rfl, p, c, 7, rfl, hp, by decide, by decide, fun way H1 w0 w7 hp1 b1 => ?_⟩
    have en1 := b1 _ _ (hp.lst en) en
    have hcs1 := hcs.but hp b1 gcs
    refine ts_orEL (j := 3) (l := 4) rfl rfl (fun _ => iteT ?_) (fun hdz hw => iteF ?_)
    · -- a leaf
      refine ⟨_, rfl, rfl, fun z0 H2 s2 hz0 => ⟨Nat.le_of_lt (small1000 (by simp)), fun l0 nl0 => ?_⟩⟩
      have s3 : Same H2 (upd H2 l0 (.lst [z0])) := Same.new nl0
      have e03 : upd H2 l0 (.lst [z0]) l0 = some (.lst [z0]) := upd_same
      have hz03 : Leaf K (upd H2 l0 (.lst [z0])) z0 := ⟨_, TmAt.ten (Ten.of_same s3) hz0, rfl, rfl⟩
      have s13 := s2.trans s3
      generalize upd H2 l0 (.lst [z0]) = H3 at s3 e03 hz03 s13 ⊢
      have en3 := s13 _ _ en1
      refine ⟨_, rfl, ln, rfl, ⟨_, SqL.of en3⟩, fun D nD => ?_⟩
      refine lc_list (fun i H' => Same H3 H' ∧ ∃ acc, H' D = some (.lst acc) ∧ acc.length = i ∧ ∀ y ∈ acc, Leaf K H' y) ⟨Same.new nD, [], upd_same, rfl, fun _ h => (nomatch h)⟩ (fun i H' _ h => SqL.of (h.1 _ _ en3)) ?_ ?_
      · rintro i x H4 hi ⟨s4, acc, eD, hl, hy⟩
        obtain ⟨y, ey, rfl⟩ : ∃ y, ns[i]? = some y ∧ V.str y = x := by
          rw [List.getElem?_map] at hi
          exact Option.map_eq_some_iff.mp hi
        have hilt : i < ns.length := (List.getElem?_eq_some_iff.mp ey).1
        refine ⟨rfl, _, rfl, y, rfl, hns y (List.mem_of_getElem? ey), fun z H5 s5 hz => ⟨acc, s5 _ _ eD, small1000 (by omega), ?_⟩⟩
        have t6 : Ten H5 (upd H5 D (.lst (acc ++ [z]))) := Ten.set (s5 _ _ eD)
        refine ⟨Same.trans_upd (s4.trans s5) nD, acc ++ [z], upd_same, by rw [List.length_append, hl]; rfl, fun u hu => ?_⟩
        rcases List.mem_append.mp hu with hu | hu
        · exact ((hy u hu).ten (Ten.of_same s5)).ten t6
        · rcases List.mem_singleton.mp hu with rfl
          exact ⟨_, TmAt.ten t6 hz, rfl, rfl⟩
      · rintro H4 ⟨s4, acc, eD, hl, hy⟩
        rw [List.length_map] at hl
        refine ⟨D, 2, acc, rfl, rfl, eD, by decide, by decide, Nat.le_of_lt (small1000 (by show acc.length * 2 ≤ 1000; omega)), fun r nr => ?_⟩
        have s5 : Same H4 (upd H4 r (.lst (List.replicate (2 : Int).toNat acc).flatten)) := Same.new nr
        have eR : upd H4 r (.lst (List.replicate (2 : Int).toNat acc).flatten) r = some (.lst (List.replicate (2 : Int).toNat acc).flatten) := upd_same
        have hrl : (List.replicate (2 : Int).toNat acc).flatten.length = acc.length + acc.length := by
          show (acc ++ (acc ++ [])).length = _
          simp
        have hry : ∀ y ∈ (List.replicate (2 : Int).toNat acc).flatten, Leaf K H4 y := by
          show ∀ y ∈ acc ++ (acc ++ []), Leaf K H4 y
          intro y hm
          rw [List.append_nil] at hm
          rcases List.mem_append.mp hm with hm | hm <;> exact hy y hm
        generalize (List.replicate (2 : Int).toNat acc).flatten = acc2 at s5 eR hrl hry ⊢
        generalize upd H4 r (.lst acc2) = H5 at s5 eR ⊢
        refine ⟨l0, r, _, _, rfl, rfl, s5 _ _ (s4 _ _ e03), eR, Nat.le_of_lt (small1000 (by rw [hrl]; show 1 + (acc.length + acc.length) ≤ 1000; omega)), fun l7 nl7 => ?_⟩
        have s17 := ((s13.trans s4).trans s5).trans (Same.new (o := .lst ([z0] ++ acc2)) nl7)
        have hp7 := hp1.same s17
        have e7 : upd H5 l7 (.lst ([z0] ++ acc2)) l7 = some (.lst ([z0] ++ acc2)) := upd_same
        have hall : ∀ y ∈ [z0] ++ acc2, Leaf K (upd H5 l7 (.lst ([z0] ++ acc2))) y := by
          intro y hm
          rcases List.mem_append.mp hm with hm | hm
          · rcases List.mem_singleton.mp hm with rfl
            exact hz03.ten (Ten.of_same ((s4.trans s5).trans (Same.new nl7)))
          · exact (hry y hm).ten (Ten.of_same (s5.trans (Same.new nl7)))
        generalize upd H5 l7 (.lst ([z0] ++ acc2)) = H7 at s17 hp7 e7 hall ⊢
        refine ⟨p, c, l7, _, rfl, hp7.lst e7, hp7, .inl (SqL.of e7), by simp, by rw [List.length_append, hrl]; show 1 + _ < _; omega, fun i x H8 hx hp8 b8 => ?_⟩
        obtain ⟨t, ht, hsz, hdp⟩ := (hall x (List.mem_of_getElem? hx)).ten (Ten.penC hp7 b8)
        refine k x t H8 hp8 ((b1.same s17).trans b8) ht ?_ ?_
        · rw [hsz]; exact drawn_pos d
        · rw [hdp]; omega
    obtain ⟨e, rfl⟩ : ∃ e, d = e + 1 := ⟨d - 1, by omega⟩
    obtain ⟨m, rfl⟩ : ∃ m, n = m + 1 := ⟨n - 1, by omega⟩
    have hde : ((e + 1 : Nat) : Int) - 1 = (e : Int) := by omega
    have hargs : ∀ q : Addr, [V.ref p, V.ref ln, V.ref q, V.int (((e + 1 : Nat) : Int) - 1)] = [V.ref p, V.ref ln, V.ref q, V.int (e : Int)] := fun q => by rw [hde]
    have hem : e ≤ m := by omega
    refine ts_orLE (j := 4) (l := 2) rfl rfl hcs1 gcs (fun H2 s2 => iteT ?_) (fun H2 s2 hw4 hcn => iteF ?_)
    · -- a pair
      have hp2 := hp1.same s2
      refine ⟨_, rfl, _, rfl, _, rfl, _, rfl, _, _, rfl, rfl, p, c, ln, lc, ns, cs, e, hargs lc, hem, hp2, s2 _ _ en1, hns, hnl, hcs1.same s2 gcs, gcs, fun z1 t1 H3 hp3 b3 hz1 hs1 hd1 => ?_⟩
      have en3 := b3 _ _ (hp2.lst (s2 _ _ en1)) (s2 _ _ en1)
      refine ⟨_, rfl, _, rfl, _, rfl, _, rfl, _, _, rfl, rfl, p, c, ln, lc, ns, cs, e, hargs lc, hem, hp3, en3, hns, hnl, (hcs1.same s2 gcs).but hp2 b3 gcs, gcs, fun z2 t2 H4 hp4 b4 hz2 hs2 hd2 => ?_⟩
      refine ⟨z1, z2, t1, t2, rfl, TmAt.ten (Ten.penC hp3 b4) hz1, hz2, fun z H5 s5 hz => ?_⟩
      have hsm := mk_small (h := .pair) (ts := [t1, t2]) (d := e) (by simp) (by simp [hs1, hs2, hd1, hd2])
      exact k z _ H5 (hp4.same s5) ((((b1.same s2).trans b3).trans b4).same s5) hz hsm.1 hsm.2
    have en2 := s2 _ _ en1
    have hp2 := hp1.same s2
    have hcs2 := hcs1.same s2 gcs
    have b2 := b1.same s2
    refine ts_eqI (j := 4) rfl (fun _ => iteT ?_) (fun _ => iteF ?_)
    · -- a same
      refine ⟨2, rfl, by decide, by decide, fun D nD => ?_⟩
      obtain ⟨nDp, _⟩ := hp2.new nD
      refine lc_range (fun i H' => Drawns K p c H2 D e i H') (Drawns.start hp2 nD) ?_ ?_
      · rintro i H3 hi h3
        have hcp3 := h3.1
        have en3 := h3.2.1 _ _ (hp2.lst en2) en2
        refine ⟨rfl, _, rfl, _, rfl, Nat.zero_le _, fun q nq => ?_⟩
        have sq : Same H3 (upd H3 q (.lst [])) := Same.new nq
        refine ⟨_, rfl, _, _, rfl, rfl, p, c, ln, q, ns, [], e, hargs q, hem, hcp3.same sq, sq _ _ en3, hns, hnl, ⟨[], upd_same, .nil⟩, good_nil, fun z t H4 hp4 b4 hz hs hd => ?_⟩
        obtain ⟨acc, e1, e2, e3⟩ := h3.step hp2 nD hp4 ((But.of_same sq).trans b4) hz hs hd
        exact ⟨acc, e1, small1000 (by omega), e3⟩
      · rintro H3 ⟨hp3, b3, us, ts, eD, hus, htl, hts⟩
        have en3 := b3 _ _ (hp2.lst en2) en2
        refine ⟨Nat.le_of_lt (small1000 (by simp)), fun a na => ⟨_, rfl, 2, rfl, by decide, by decide, fun D2 nD2 => ?_⟩⟩
        have sa : Same H3 (upd H3 a (.tup [.str "same"])) := Same.new na
        have ea : upd H3 a (.tup [.str "same"]) a = some (.tup [.str "same"]) := upd_same
        generalize upd H3 a (.tup [.str "same"]) = H4 at sa ea nD2 ⊢
        have hp4 := hp3.same sa
        have en4 := sa _ _ en3
        have hcs4 := (hcs2.but hp2 b3 gcs).same sa gcs
        refine lc_range (fun i H' => Drawns K p c H4 D2 e i H') (Drawns.start hp4 nD2) ?_ ?_
        · rintro i H5 hi h5
          refine ⟨rfl, _, rfl, _, rfl, _, rfl, _, rfl, _, _, rfl, rfl, p, c, ln, lc, ns, cs, e, hargs lc, hem, h5.1, h5.2.1 _ _ (hp4.lst en4) en4, hns, hnl, hcs4.but hp4 h5.2.1 gcs, gcs, fun z t H6 hp6 b6 hz hs hd => ?_⟩
          obtain ⟨acc, e1, e2, e3⟩ := h5.step hp4 nD2 hp6 b6 hz hs hd
          exact ⟨acc, e1, small1000 (by omega), e3⟩
        · rintro H5 ⟨hp5, b5, us2, ts2, eD2, hus2, htl2, hts2⟩
          have eD5 := b5 _ _ nDp (sa _ _ eD)
          have t45 : Ten H4 H5 := Ten.penC hp4 b5
          have hus5 := tms_ten ((Ten.of_same sa).trans t45) hus
          have htl' : ts.length = 2 := htl
          have htl2' : ts2.length = 2 := htl2
          have hul := hus.length
          have hul2 := hus2.length
          refine ⟨D, D2, us, us2, rfl, rfl, eD5, eD2, Nat.le_of_lt (small1000 (by omega)), fun l nl => ⟨l, _, rfl, .inl ⟨SqL.of upd_same, fun r nr => ?_⟩⟩⟩
          have s6 : Same H5 (upd (upd H5 l (.lst (us ++ us2))) r (.tup (us ++ us2))) := (Same.new nl).trans (Same.new nr)
          have er : upd (upd H5 l (.lst (us ++ us2))) r (.tup (us ++ us2)) r = some (.tup (us ++ us2)) := upd_same
          generalize upd (upd H5 l (.lst (us ++ us2))) r (.tup (us ++ us2)) = H6 at s6 er ⊢
          have hq6 : SqT K H6 a [.str "same"] := (t45.trans (Ten.of_same s6)).tup (SqT.of ea)
          refine ⟨a, r, _, _, rfl, rfl, hq6, SqT.of er, Nat.le_of_lt (small1000 (by rw [List.length_append, List.length_singleton]; omega)), fun z => (nomatch z), fun _ z => ?_, fun _ _ f nf => ?_⟩
          · have := congrArg List.length z
            rw [List.length_append, List.length_nil] at this
            omega
          · have s7 : Same H6 (upd H6 f (.tup ([.str "same"] ++ (us ++ us2)))) := Same.new nf
            have t67 := Ten.of_same (s6.trans s7)
            have hsm := mk_small (h := .same) (ts := ts ++ ts2) (d := e) (by rw [List.length_append]; omega) (fun t ht => by
              rcases List.mem_append.mp ht with ht | ht
              · exact hts t ht
              · exact hts2 t ht)
            refine k (.ref f) (.mk .same (ts ++ ts2)) _ (hp5.same (s6.trans s7)) (((((b2.trans b3).same sa).trans b5).same s6).same s7) ⟨?_, ?_⟩ hsm.1 hsm.2
            · show Dp K _ (.ref f) (.tuple (.str "same" :: datas (ts ++ ts2)))
              have hz := paired_append (tms_ten t67 hus5) (tms_ten t67 hus2)
              exact .tup (SqT.of upd_same) (.cons (.str _) (tms_dps hz))
            · show (fits .same (ts ++ ts2).length && oks (ts ++ ts2)) = true
              have h1 : oks (ts ++ ts2) = true := tms_ok (paired_append hus5 hus2)
              rw [h1, List.length_append, htl', htl2']
              rfl
    · -- a call
      obtain ⟨xs, ex, dx⟩ := hcs2
      have hxl := dps_len dx
      rw [List.length_map] at hxl
      have hcl : 0 < cs.length := List.length_pos_iff.mpr hcn
      refine ⟨_, rfl, _, rfl, p, c, lc, xs, rfl, hp2.lst ex, hp2, .inl (SqL.of ex), by omega, by have := gcs.2.1; omega, fun i x H3 hx hp3 b3 => ?_⟩
      obtain ⟨d0, ed, dd⟩ := dps_get dx hx
      rw [List.getElem?_map] at ed
      obtain ⟨cc, ecc, rfl⟩ := Option.map_eq_some_iff.mp ed
      obtain ⟨gn, gm⟩ := gcs.1 cc (List.mem_of_getElem? ecc)
      obtain ⟨tp, rfl, tq⟩ := call_of dd
      have en3 := b3 _ _ (hp2.lst en2) en2
      have hcs3 := CallsAt.but ⟨xs, ex, dx⟩ hp2 b3 gcs
      refine ⟨tp, _, rfl, (Ten.penC hp2 b3).tup tq, rfl, .str cc.1, _, rfl, .int cc.2, _, rfl, rfl, ?_⟩
      refine ⟨_, rfl, _, rfl, (cc.2 : Int), rfl, by omega, by omega, fun D nD => ?_⟩
      refine lc_range (fun i H' => Drawns K p c H3 D e i H') (Drawns.start hp3 nD) ?_ ?_
      · rintro i H5 hi h5
        refine ⟨rfl, _, rfl, _, rfl, _, rfl, _, rfl, _, _, rfl, rfl, p, c, ln, lc, ns, cs, e, hargs lc, hem, h5.1, h5.2.1 _ _ (hp3.lst en3) en3, hns, hnl, hcs3.but hp3 h5.2.1 gcs, gcs, fun z t H6 hp6 b6 hz hs hd => ?_⟩
        obtain ⟨acc, e1, e2, e3⟩ := h5.step hp3 nD hp6 b6 hz hs hd
        have hi' : i < cc.2 := by simpa using hi
        exact ⟨acc, e1, small1000 (by omega), e3⟩
      · rintro H5 ⟨hp5, b5, us, ts, eD, hus, htl, hts⟩
        have htl' : ts.length = cc.2 := by simpa using htl
        have hsm := mk_small (h := .call cc.1) (ts := ts) (d := e) (by omega) hts
        exact ⟨cc.1, D, us, ts, rfl, gn, eD, hus, by omega, fun z H6 s6 hz => k z _ H6 (hp5.same s6) (((b2.trans b3).trans b5).same s6) hz hsm.1 hsm.2⟩
end
end K48
namespace K48
open PySem PySem.Spec PyProof.Rows L2 Tc
/-! _law_places, _law_part -/
section
variable {P : Program} {w : World} {K : PySem.W.Frag} {mg : Str → Option Value} {base : Heap}
theorem c_law_places (T : TX K mg) : ∀ n : Nat, Callee P w K mg base CX0 (n + 1) "_law_places" ["term", "place"] (spLawPlaces K n)
  | 0 => by
    obtain ⟨fd, F⟩ := F_law_places T
    exact callee_mk F (g_law_places T) (fun _ _ _ _ _ _ us hl => match us, hl with | [_, _], _ => rfl) ⟨fun _ _ _ _ h => h.elim, fun _ _ _ _ _ _ _ _ _ _ _ _ _ h => h.elim⟩
  | n + 1 => by
    have ih := c_law_places T n
    obtain ⟨fd, F⟩ := F_law_places T
    refine callee_mk F (g_law_places T) (fun _ _ _ _ _ _ us hl => match us, hl with | [_, _], _ => rfl) ?_
    refine F.ok sc_law_places (fun vs H Q E h => by obtain ⟨v, p, t, pl, rfl, _⟩ := h; rfl) fun cdv A outer s H vs Q E hr h => ?_
    obtain ⟨v, p, t, pl, rfl, hv, hq, hd, hz, hpd, k⟩ := h
    refine ⟨_,
    --W _law_places h_lawplaces.json
    (pss_cons (ps_set (i := 2) sc_law_places.nd rfl (by first | exact Or.inl rfl | exact Or.inr rfl) (pe_lst (pa_cons (pv 1) pa_nil)))
    (pss_cons (ps_set (i := 3) sc_law_places.nd rfl (by first | exact Or.inl rfl | exact Or.inr rfl) (pe_f (c_law_inner T) hr (pa_cons (pv 0) pa_nil) (by omega)))
    (pss_cons (ps_for PassesOwn.never rfl (pi_range1 (by rfl) (g_range T) (pa_cons (pe_callB (r := rLn K) call_ln (by rfl) (g_len T) PySem.boot_len (pa_cons (pv 3) pa_nil)) pa_nil)) (pg_name (i := 4) sc_law_places.nd rfl (by first | exact Or.inl rfl | exact Or.inr rfl))
    (pss_one (ps_set (i := 2) sc_law_places.nd rfl (by first | exact Or.inl rfl | exact Or.inr rfl) (pe_op op_cat (pv 2) (pe_f ih hr (pa_cons (pe_ix (r := rIx K) ix_seq (pv 3) (pv 4) (fun _ _ => rfl)) (pa_cons (pe_op op_catA (pv 1) (pe_tup (pa_cons (pv 4) pa_nil))) pa_nil)) (by omega))))))
    (pss_one (ps_ret (pv 2))))))
    --/W
    , ?_⟩
    have hlen := places_len t pl
    refine ⟨_, rfl, Nat.le_of_lt (small1000 (by simp)), fun f0 nf0 => ?_⟩
    have s0 : Same H (upd H f0 (.lst [.ref p])) := Same.new nf0
    have e0 : upd H f0 (.lst [.ref p]) f0 = some (.lst [.ref p]) := upd_same
    generalize upd H f0 (.lst [.ref p]) = H0 at s0 e0 ⊢
    refine ⟨_, rfl, v, t, rfl, TmAt.ten (Ten.of_same s0) hv, fun q us H1 s1 hq1 hus => ?_⟩
    have s01 := s0.trans s1
    have hul := hus.length
    refine ⟨_, rfl, q, us, rfl, .inr hq1, (us.length : Int), rfl, by have := parts_len t; have := innerD_len (inner_data hv.2); rw [datas_len] at this; omega, by have := parts_len t; have := innerD_len (inner_data hv.2); rw [datas_len] at this; omega, ?_⟩
    refine for_range (fun i σ H' => ∃ (f : Addr) (fs : List V) (o : Option V), σ = [some v, some (.ref p), some (.ref f), some (.ref q), o] ∧ Same H1 H' ∧ H' f = some (.lst fs) ∧ DpAll K H' fs (placeD pl :: ((placesL (t.parts.take i) pl 0).map fun e => placeD e.1))) ⟨f0, [.ref p], none, rfl, Same.refl _, s1 _ _ e0, ?_⟩ ?_ ?_
    · rw [List.take_zero, placesL]
      exact .cons (.tup ((Ten.of_same s01).tup hq) dps_ints) .nil
    · rintro i σ H2 hi ⟨f, fs, o, rfl, s2, ef, hfs⟩
      have hi' : i < us.length := by simpa using hi
      have s02 := s01.trans s2
      have ex : us[i]? = some us[i] := List.getElem?_eq_getElem hi'
      obtain ⟨u, eu, hu⟩ := paired_get hus ex
      have hq2 := (Ten.of_same s02).tup hq
      have hu2 := TmAt.ten (Ten.of_same s2) hu
      refine ⟨_, rfl, _, rfl, _, rfl, .inr (.inl ⟨q, us, _, us[i], rfl, rfl, (Ten.of_same s2).tup hq1, at_of (j := i) (by omega) ex, ?_⟩)⟩
      refine ⟨_, rfl, _, rfl, Nat.le_of_lt (small1000 (by simp)), fun a na => ?_⟩
      have sa : Same H2 (upd H2 a (.tup [.int (0 + (i : Int))])) := Same.new na
      have ea : upd H2 a (.tup [.int (0 + (i : Int))]) a = some (.tup [.int (0 + (i : Int))]) := upd_same
      generalize upd H2 a (.tup [.int (0 + (i : Int))]) = H3 at sa ea ⊢
      have hme := deeps_mem (parts_mem (List.mem_of_getElem? eu))
      have hms := sizes_mem (List.mem_of_getElem? eu)
      have hsp := sizes_parts t
      have hdk := deep_kids t
      have hsk := size_kids t
      have hup := deep_kids u
      obtain ⟨m, rfl⟩ : ∃ m, n = m + 1 := ⟨n - 1, by omega⟩
      have fin : ∀ (b : Addr) (H4 : Hp), Same H3 H4 → SqT K H4 b ((pl ++ [0 + (i : Int)]).map V.int) → spLawPlaces K (m + 1) [us[i], .ref b] H4 (fun x H5 => rCat (.ref f) x H5 fun x H6 => ∃ (f : Addr) (fs : List V) (o : Option V), ([some v, some (.ref p), some x, some (.ref q), some (.int (0 + (i : Int)))] : L2.St) = [some v, some (.ref p), some (.ref f), some (.ref q), o] ∧ Same H1 H6 ∧ H6 f = some (.lst fs) ∧ DpAll K H6 fs (placeD pl :: ((placesL (t.parts.take (i + 1)) pl 0).map fun e => placeD e.1))) E := by
        intro b H4 s4 hb
        have s24 := sa.trans s4
        refine ⟨us[i], b, u, _, rfl, TmAt.ten (Ten.of_same s24) hu2, hb, by omega, by omega, by rw [List.length_append, List.length_singleton]; omega, fun g gs H5 s5 eg hgs => ?_⟩
        have s25 := s24.trans s5
        have h1 := dps_len hfs
        have h2 := dps_len hgs
        have h3 := placesL_len (t.parts.take i) pl 0
        have h4 := sizes_take (ts := t.parts) (i := i)
        have h5 := places_len u (pl ++ [0 + (i : Int)])
        rw [List.length_cons, List.length_map] at h1
        rw [placesD, List.length_map] at h2
        refine ⟨f, g, fs, gs, rfl, rfl, s25 _ _ ef, eg, Nat.le_of_lt (small4000 (by omega)), fun r nr => ⟨r, _, _, rfl, (s2.trans s25).trans (Same.new nr), upd_same, ?_⟩⟩
        have t5 : Ten H5 (upd H5 r (.lst (fs ++ gs))) := Ten.new nr
        have ei : t.parts.take (i + 1) = t.parts.take i ++ [u] := by rw [List.take_add_one, eu]; rfl
        have el : (t.parts.take i).length = i := by rw [List.length_take]; omega
        rw [ei, placesL_snoc, el, List.map_append, ← List.cons_append]
        exact dps_append (ten_places (es := (pl, t) :: placesL (t.parts.take i) pl 0) ((Ten.of_same s25).trans t5) hfs) (ten_places t5 hgs)
      refine ⟨p, a, _, _, rfl, rfl, (Ten.of_same sa).tup hq2, SqT.of ea, Nat.le_of_lt (small1000 (by rw [List.length_map, List.length_singleton]; omega)), fun z => ?_, fun _ z => (nomatch z), fun _ _ b nb => ?_⟩
      · have e : pl = [] := by simpa using z
        subst e
        exact fin a H3 (Same.refl H3) (SqT.of ea)
      · exact fin b _ (Same.new nb) (SqT.of (by rw [upd_same, List.map_append]; rfl))
    · rintro σ H2 ⟨f, fs, o, rfl, s2, ef, hfs⟩
      refine ⟨_, rfl, k f fs H2 (s01.trans s2) ef ?_⟩
      rw [placesD, places_eq, List.map_cons]
      have e : t.parts.take (us.length : Int).toNat = t.parts := List.take_of_length_le (by omega)
      rw [e] at hfs
      exact hfs
theorem c_law_part (T : TX K mg) : Callee P w K mg base CX0 2 "_law_part" ["term", "place"] (spLawPart K) := by
  obtain ⟨fd, F⟩ := F_law_part T
  refine callee_mk F (g_law_part T) (fun _ _ _ _ _ _ us hl => match us, hl with | [_, _], _ => rfl) ?_
  refine F.ok sc_law_part (fun vs H Q E h => by obtain ⟨v, p, t, u, pl, rfl, _⟩ := h; rfl) fun cdv A outer s H vs Q E hr h => ?_
  obtain ⟨v, p, t, u, pl, rfl, hv, hq, hu, k⟩ := h
  refine ⟨_,
    --W _law_part h_lawpart.json
    (pss_cons (ps_for PassesOwn.never rfl (pi_tup (pv 1)) (pg_name (i := 2) sc_law_part.nd rfl (by first | exact Or.inl rfl | exact Or.inr rfl))
    (pss_one (ps_set (i := 0) sc_law_part.nd rfl (by first | exact Or.inl rfl | exact Or.inr rfl) (pe_ix (r := rIx K) ix_seq (pe_f (c_law_inner T) hr (pa_cons (pv 0) pa_nil)) (pv 2) (fun _ _ => rfl)))))
    (pss_one (ps_ret (pv 0))))
    --/W
    , ?_⟩
  refine ⟨_, rfl, p, rfl, ⟨_, hq⟩, for_tup (fun i σ H' => ∃ (y : V) (w : Trm) (o : Option V), σ = [some y, some (.ref p), o] ∧ Same H H' ∧ TmAt K H' y w ∧ partAt w (pl.drop i) = some u) ⟨v, t, none, rfl, Same.refl H, hv, by rw [List.drop_zero]; exact hu⟩ (fun i σ H' _ h => by obtain ⟨y, u, o, rfl, s1, _⟩ := h; exact (Ten.of_same s1).tup hq) ?_ ?_⟩
  · rintro i x σ H1 hi ⟨y, w', o, rfl, s1, hy, hp⟩
    obtain ⟨j, ej, rfl⟩ : ∃ j, pl[i]? = some j ∧ V.int j = x := by
      rw [List.getElem?_map] at hi
      exact Option.map_eq_some_iff.mp hi
    have hlt : i < pl.length := (List.getElem?_eq_some_iff.mp ej).1
    have edr : pl.drop i = j :: pl.drop (i + 1) := by
      rw [List.drop_eq_getElem_cons hlt]
      congr 1
      exact (List.getElem?_eq_some_iff.mp ej).2
    rw [edr] at hp
    obtain ⟨h0, u2, e2, hp2⟩ := partAt_cons hp
    refine ⟨_, rfl, y, w', rfl, hy, fun q us H2 s2 hq2 hus => ?_⟩
    have hl := hus.length
    have hlt2 : j.toNat < us.length := by rw [hl]; exact (List.getElem?_eq_some_iff.mp e2).1
    have ex : us[j.toNat]? = some us[j.toNat] := List.getElem?_eq_getElem hlt2
    obtain ⟨u3, eu, hu3⟩ := paired_get hus ex
    rw [e2] at eu
    cases eu
    exact ⟨_, rfl, .inr (.inl ⟨q, us, j, us[j.toNat], rfl, rfl, hq2, at_of (j := j.toNat) (by omega) ex, us[j.toNat], u2, _, rfl, s1.trans s2, hu3, hp2⟩)⟩
  · rintro σ H1 ⟨y, w', o, rfl, s1, hy, hp⟩
    rw [List.length_map, List.drop_length, partAt] at hp
    exact ⟨_, rfl, k y H1 s1 (Option.some.inj hp ▸ hy)⟩
end
end K48
namespace K48
open PySem PySem.Spec PyProof.Rows L2 Tc
/-! _law_other -/
section
variable {P : Program} {w : World} {K : PySem.W.Frag} {mg : Str → Option Value} {base : Heap}
theorem c_law_other (T : TX K mg) : ∀ n : Nat, Callee P w K mg base CX0 (n + 1) "_law_other" ["term", "place", "new"] (spLawOther K n)
  | 0 => by
    obtain ⟨fd, F⟩ := F_law_other T
    exact callee_mk F (g_law_other T) (fun _ _ _ _ _ _ us hl => match us, hl with | [_, _, _], _ => rfl) ⟨fun _ _ _ _ h => h.elim, fun _ _ _ _ _ _ _ _ _ _ _ _ _ h => h.elim⟩
  | n + 1 => by
    have ih := c_law_other T n
    obtain ⟨fd, F⟩ := F_law_other T
    refine callee_mk F (g_law_other T) (fun _ _ _ _ _ _ us hl => match us, hl with | [_, _, _], _ => rfl) ?_
    refine F.ok sc_law_other (fun vs H Q E h => by obtain ⟨v, x, y, _, _, _, rfl, _⟩ := h; rfl) fun cdv A outer s H vs Q E hr h => ?_
    obtain ⟨v, x, y, t, o, pl, rfl, hv, hx, hy, hl, hsome, k⟩ := h
    have hu := hr.units
    refine ⟨_,
    --W _law_other h_lawother.json
    (pss_cons (ps_if (pt_cmpR (op_eqD hu) (pv 1) (pe_tup pa_nil) (nomark _))
    (pss_one (ps_ret (pv 2)))
    pss_nil)
    (pss_cons (ps_set (i := 3) sc_law_other.nd rfl (by first | exact Or.inl rfl | exact Or.inr rfl) (pe_callTy call_list_of (by rfl) (g_list T) PyProof.Rows.boot_list (pa_cons (pe_f (c_law_inner T) hr (pa_cons (pv 0) pa_nil) (by omega)) pa_nil)))
    (pss_cons (ps_asg (pe_f ih hr (pa_cons (pe_ix (r := rIx K) ix_seq (pv 3) (pe_ix (r := rIx K) ix_seq (pv 1) pe_int (fun _ _ => rfl)) (fun _ _ => rfl)) (pa_cons (pe_slice (r := rSlA K) sl_tupA (pv 1) (po_some pe_int) po_none) (pa_cons (pv 2) pa_nil))) (by omega)) (pg_sub (pv 3) (pe_ix (r := rIx K) ix_seq (pv 1) pe_int (fun _ _ => rfl)) set_list (fun _ => rfl)))
    (pss_one (ps_ret (pe_ifExp (pt_cmpR op_eq (pe_ix (r := rIx K) ix_seq (pv 0) pe_int (fun _ _ => rfl)) pe_str (nomark _)) (pe_tup (pa_cons pe_str (pa_cons (pe_ix (r := rIx K) ix_seq (pv 0) pe_int (fun _ _ => rfl)) (pa_cons (pe_callTy call_tuple_of (by rfl) (g_tuple T) PyProof.Rows.boot_tuple (pa_cons (pv 3) pa_nil)) pa_nil)))) (pe_op op_catA (pe_slice (r := rSlA K) sl_tupA (pv 0) po_none (po_some pe_int)) (pe_callTy call_tuple_of (by rfl) (g_tuple T) PyProof.Rows.boot_tuple (pa_cons (pv 3) pa_nil)))))))))
    --/W
    , ?_⟩
    obtain ⟨p, rfl, hq⟩ := hx
    refine ⟨_, rfl, Nat.zero_le _, fun q0 nq0 => ⟨placeD pl, .tuple [], .tup ((Ten.new nq0).tup hq) dps_ints, .tup (SqT.of upd_same) .nil, shaped_place pl, by decide +kernel, _, rfl, ?_⟩⟩
    rw [eqv_place]
    have s00 : Same H (upd H q0 (.tup [])) := Same.new nq0
    generalize upd H q0 (.tup []) = H0 at s00 ⊢
    have hv0 := TmAt.ten (Ten.of_same s00) hv
    have hy0 := TmAt.ten (Ten.of_same s00) hy
    have hq0 := (Ten.of_same s00).tup hq
    have k0 : ∀ (z : V) (H' : Hp), Same H0 H' → TmAt K H' z (Tc.putAt t pl o) → Q z H' := fun z H' s' => k z H' (s00.trans s')
    clear hv hy hq k s00
    rename TmAt K H0 v t => hv
    rename TmAt K H0 y o => hy
    rename SqT K H0 p _ => hq
    rename ∀ (z : V) (H' : Hp), Same H0 H' → _ => k
    cases pl with
    | nil => exact iteT ⟨_, rfl, k y H0 (Same.refl H0) (by rw [Tc.putAt]; exact hy)⟩
    | cons i is =>
      obtain ⟨u, eu⟩ := Option.isSome_iff_exists.mp hsome
      obtain ⟨h0, w', ew, e2⟩ := partAt_cons eu
      refine iteF ⟨_, rfl, v, t, rfl, hv, fun q us H1 s1 hq1 hus => ⟨q, us, rfl, .inr hq1, fun l nl => ?_⟩⟩
      have s2 : Same H1 (upd H1 l (.lst us)) := Same.new nl
      have eL2 : upd H1 l (.lst us) l = some (.lst us) := upd_same
      have hus2 := tms_ten (Ten.of_same s2) hus
      have s02 := s1.trans s2
      have nlH : H0 l = none := s1.free nl
      generalize upd H1 l (.lst us) = H2 at s2 eL2 hus2 s02 ⊢
      have hul := hus2.length
      have hlt : i.toNat < us.length := by rw [hul]; exact (List.getElem?_eq_some_iff.mp ew).1
      have e1 : us[i.toNat]? = some us[i.toNat] := List.getElem?_eq_getElem hlt
      obtain ⟨u2, eu2, hu2⟩ := paired_get hus2 e1
      rw [ew] at eu2
      cases eu2
      have q2 := (Ten.of_same s02).tup hq
      obtain _ | m := n
      · simp at hl
      refine ⟨_, rfl, _, rfl, .inr (.inl ⟨p, _, 0, .int i, rfl, rfl, q2, at_of (j := 0) (by simp) rfl, .inl ⟨l, us, i, us[i.toNat], rfl, rfl, SqL.of eL2, at_of (j := i.toNat) (by omega) e1, ?_⟩⟩)⟩
      refine rd_tail (K := K) (j := 1) rfl q2 fun r nr => ⟨_, rfl, us[i.toNat], .ref r, y, w', o, is, rfl, ?_⟩
      have s3 : Same H2 (upd H2 r (.tup (is.map V.int))) := Same.new nr
      have s03 := s02.trans s3
      have t3 := Ten.of_same s3
      refine ⟨TmAt.ten t3 hu2, ⟨r, rfl, SqT.of upd_same⟩, TmAt.ten (Ten.of_same s03) hy, by simpa using hl, by rw [e2]; rfl, fun z H4 s4 hz => ?_⟩
      have s04 := s03.trans s4
      have eL4 := s4 _ _ (s3 _ _ eL2)
      have q4 := (Ten.of_same s04).tup hq
      have hus4 := tms_ten (t3.trans (Ten.of_same s4)) hus2
      have hv4 := TmAt.ten (Ten.of_same s04) hv
      refine ⟨_, rfl, _, rfl, .inr (.inl ⟨p, _, 0, .int i, rfl, rfl, q4, at_of (j := 0) (by simp) rfl, l, us, i, i.toNat, rfl, rfl, eL4, ?_, ?_⟩)⟩
      · exact ixN_at h0 hlt
      have t5 : Ten H4 (upd H4 l (.lst (us.set i.toNat z))) := Ten.set eL4
      have s05 : Same H0 (upd H4 l (.lst (us.set i.toNat z))) := Same.trans_upd s04 nlH
      have eL5 : upd H4 l (.lst (us.set i.toNat z)) l = some (.lst (us.set i.toNat z)) := upd_same
      generalize upd H4 l (.lst (us.set i.toNat z)) = H5 at t5 s05 eL5 ⊢
      have hus5 := paired_set (tms_ten t5 hus4) (TmAt.ten t5 hz) (i := i.toNat)
      have hv5 := TmAt.ten t5 hv4
      obtain ⟨h, ks⟩ := t
      obtain ⟨ho, ek⟩ := opens_of_parts ew
      have ep : (Trm.mk h ks).parts = ks := by
        unfold Trm.parts Trm.hd Trm.kids
        dsimp only
        rw [if_pos ho]
      rw [ep] at hus5
      rw [putAt_step ek] at k
      obtain ⟨p0, xs, rfl, hq5, ha5⟩ := top_of hv5
      have at0 : atI (.str h.word :: xs) 0 = some (.str h.word) := at_of (j := 0) (by simp) rfl
      have hok : (Trm.mk h (ks.set i.toNat (Tc.putAt w' is o))).ok = true := by
        rw [← putAt_step ek]
        exact putAt_ok eu hv.2 hy.2
      refine ts_word rfl hq5 at0 (fun hc => iteT ?_) (fun hc => iteF ?_)
      · obtain ⟨f, rfl⟩ := word_call hc
        · obtain ⟨x1, xs1, d1, ds1, rfl, e1, a1, a, hl1⟩ := dps_succ (n := 1) ha5 (by rw [dps_len ha5]; rfl)
          obtain ⟨rfl, _⟩ := List.cons.inj e1
          cases a1
          refine rd_ix rfl hq5 (at_of (j := 1) (by simp) rfl) ⟨_, rfl, l, _, rfl, .inl ⟨SqL.of eL5, fun l6 nl6 => ?_⟩⟩
          have s6 : Same H5 (upd H5 l6 (.tup (us.set i.toNat z))) := Same.new nl6
          refine ⟨Nat.le_of_lt (small1000 (by simp)), fun p7 np7 => k _ _ ((s05.trans s6).trans (Same.new np7)) ⟨?_, hok⟩⟩
          have t7 := (Ten.of_same s6).trans (Ten.new (u := .tup [.str "call", .str f, .ref l6]) np7)
          exact .tup (SqT.of upd_same) (.cons (.str _) (.cons (.str f) (.cons (.tup ((Ten.new np7).tup (SqT.of upd_same)) (tms_dps (tms_ten t7 hus5))) .nil)))
      · have hxl := dps_len ha5
        rw [rest_tail ho hc, datas_len] at hxl
        have hkl : i.toNat < ks.length := (List.getElem?_eq_some_iff.mp ek).1
        refine rd_first (K := K) (j := 0) rfl hq5 (by intro z; rw [z] at hxl; simp at hxl; omega) fun a na => ?_
        have sa : Same H5 (upd H5 a (.tup [.str h.word])) := Same.new na
        have ea : upd H5 a (.tup [.str h.word]) a = some (.tup [.str h.word]) := upd_same
        generalize upd H5 a (.tup [.str h.word]) = H6 at sa ea ⊢
        refine ⟨_, rfl, l, _, rfl, .inl ⟨SqL.of (sa _ _ eL5), fun r nr => ?_⟩⟩
        have sr : Same H6 (upd H6 r (.tup (us.set i.toNat z))) := Same.new nr
        have h1 := innerD_len (inner_data hv.2)
        have h2 := parts_len (.mk h ks)
        rw [datas_len] at h1
        refine ⟨a, r, _, _, rfl, rfl, (Ten.of_same sr).tup (SqT.of ea), SqT.of upd_same, Nat.le_of_lt (small1000 ?_), fun z => (nomatch z), fun _ z => ?_, fun _ _ f nf => k _ _ (((s05.trans sa).trans sr).trans (Same.new nf)) ⟨?_, hok⟩⟩
        · rw [List.length_singleton, List.length_set, hul]
          omega
        · have := congrArg List.length z
          rw [List.length_set, List.length_nil] at this
          omega
        · rw [data_tail ho hc]
          have hz := tms_dps (tms_ten (((Ten.of_same sa).trans (Ten.of_same sr)).trans (Ten.new (u := .tup ([.str h.word] ++ us.set i.toNat z)) nf)) hus5)
          exact .tup (SqT.of upd_same) (.cons (.str _) hz)
end
end K48
namespace K48
open PySem PySem.Spec PyProof.Rows L2 Tc
/-! the law's lambdas, by their places in its text -/
def lamOf : Expr → LamT
  | .Lambda p b s _ => ⟨p, b, s⟩
  | e => ⟨defArgs s_law, e, defScope s_law⟩
def lapOf : Stmt → List Stmt
  | .For _ _ b _ _ => b
  | _ => []
def firstE : List Expr → Expr
  | e :: _ => e
  | [] => .Tuple [] 0 default
def eltsOf : Expr → List Expr
  | .Tuple es _ _ => es
  | .List es _ => es
  | .Call _ es _ _ => es
  | _ => []
def rowOf : Stmt → Expr
  | .Assign _ e _ => firstE (eltsOf (firstE (eltsOf e)))
  | .Expr e _ => firstE (eltsOf (firstE (eltsOf e)))
  | _ => .Tuple [] 0 default
def lapS : List Stmt := match defBody s_law with
  | _ :: st :: _ => lapOf st
  | _ => []
def rowS (i : Nat) : Expr := match lapS.drop i with
  | st :: _ => rowOf st
  | [] => .Tuple [] 0 default
abbrev l0 : LamT := lamOf (rowS 7)
abbrev l1 : LamT := lamOf (rowS 8)
abbrev l2 : LamT := lamOf (rowS 9)
abbrev l3 : LamT := lamOf (rowS 10)
abbrev l4 : LamT := lamOf (rowS 11)
abbrev l5 : LamT := lamOf (rowS 12)
theorem ls0 : LamX.LamS (defScope s_law) l0.scope := LamX.lamS_by (by decide +kernel)
theorem ls1 : LamX.LamS (defScope s_law) l1.scope := LamX.lamS_by (by decide +kernel)
theorem ls2 : LamX.LamS (defScope s_law) l2.scope := LamX.lamS_by (by decide +kernel)
theorem ls3 : LamX.LamS (defScope s_law) l3.scope := LamX.lamS_by (by decide +kernel)
theorem ls4 : LamX.LamS (defScope s_law) l4.scope := LamX.lamS_by (by decide +kernel)
theorem ls5 : LamX.LamS (defScope s_law) l5.scope := LamX.lamS_by (by decide +kernel)
abbrev lawAt : Str × Option Str := ("law", none)
abbrev XL (pn : Pins) (P : Program) (w : World) (K : PySem.W.Frag) (mg : Str → Option Value) (base : Heap) (A : Around) (outer : List Env) (s : Shared) (H : Hp) (E : XK) : Cx :=
  cxG true pn CX0 P w K mg base ["script", "pen", "lap", "term", "case", "places", "turn", "place", "given", "new", "bad", "odd", "calls"] "law" (defScope s_law) (He.fAd K lawAt) (.ref (He.codeOf K lawAt)) A outer s H E
abbrev WL (E : XK) : WX := fun cls d _ H => E cls d H
section
variable (K : PySem.W.Frag)
abbrev t0 : XK → TE := fun E => tCallS (spPlacesIn K) (WE (WL E)) (tCons (tVar 10) tNil)
abbrev t1 : XK → TE := fun E => tCallS (spPartAt K) (WE (WL E)) (tCons (tVar 10) (tCons (tVar 11) tNil))
abbrev t2 : XK → TE := fun E => tCallS (spPartAt K) (WE (WL E)) (tCons (tVar 3) (tCons (tVar 11) tNil))
abbrev t3 : XK → TE := fun E => tCallS (spWithPart K) (WE (WL E)) (tCons (tVar 10) (tCons (tVar 11) (tCons (tVar 10) tNil)))
abbrev t4 : XK → TE := fun E => tCallS (spWithPart K) (WE (WL E)) (tCons (tVar 3) (tCons (tVar 11) (tCons (tVar 10) tNil)))
abbrev t5 : XK → TE := fun E => tCallS (spWithPart K) (WE (WL E)) (tCons (tVar 3) (tCons (tTup tNil) (tCons (tVar 10) tNil)))
def lams : List (LamT × (XK → TE)) := [(l0, t0 K), (l1, t1 K), (l2, t2 K), (l3, t3 K), (l4, t4 K), (l5, t5 K)]
end
section
variable {P : Program} {w : World} {K : PySem.W.Frag} {mg : Str → Option Value} {base : Heap} {pn : Pins} {A : Around} {outer : List Env} {s : Shared} {H : Hp} {E : XK}
theorem lam0 (T : TX K mg) : Lam1 (XL pn P w K mg base A outer s H E) 30 l0 (t0 K) :=
  ⟨ls0, fun _ _ _ _ _ => rfl, fun _ _ _ _ _ _ _ hr => pe_fX (c_places_in T) hr (takes_of rfl rfl rfl rfl) (pa_cons (pv 10) pa_nil)⟩
theorem lam1 (T : TX K mg) : Lam1 (XL pn P w K mg base A outer s H E) 30 l1 (t1 K) :=
  ⟨ls1, fun _ _ _ _ _ => rfl, fun _ _ _ _ _ _ _ hr => pe_fX (c_part_at T) hr (takes_of rfl rfl rfl rfl) (pa_cons (pv 10) (pa_cons (pv 11) pa_nil))⟩
theorem lam2 (T : TX K mg) : Lam1 (XL pn P w K mg base A outer s H E) 30 l2 (t2 K) :=
  ⟨ls2, fun _ _ _ _ _ => rfl, fun _ _ _ _ _ _ _ hr => pe_fX (c_part_at T) hr (takes_of rfl rfl rfl rfl) (pa_cons (pv 3) (pa_cons (pv 11) pa_nil))⟩
theorem lam3 (T : TX K mg) : Lam1 (XL pn P w K mg base A outer s H E) 30 l3 (t3 K) :=
  ⟨ls3, fun _ _ _ _ _ => rfl, fun _ _ _ _ _ _ _ hr => pe_fX (c_with_part T) hr (takes_of rfl rfl rfl rfl) (pa_cons (pv 10) (pa_cons (pv 11) (pa_cons (pv 10) pa_nil)))⟩
theorem lam4 (T : TX K mg) : Lam1 (XL pn P w K mg base A outer s H E) 30 l4 (t4 K) :=
  ⟨ls4, fun _ _ _ _ _ => rfl, fun _ _ _ _ _ _ _ hr => pe_fX (c_with_part T) hr (takes_of rfl rfl rfl rfl) (pa_cons (pv 3) (pa_cons (pv 11) (pa_cons (pv 10) pa_nil)))⟩
theorem lam5 (T : TX K mg) : Lam1 (XL pn P w K mg base A outer s H E) 30 l5 (t5 K) :=
  ⟨ls5, fun _ _ _ _ _ => rfl, fun _ _ _ _ _ _ _ hr => pe_fX (c_with_part T) hr (takes_of rfl rfl rfl rfl) (pa_cons (pv 3) (pa_cons (pe_tup pa_nil) (pa_cons (pv 10) pa_nil)))⟩
theorem lams_ok (T : TX K mg) : ∀ l ∈ lams K, Lam1 (XL pn P w K mg base A outer s H E) 30 l.1 l.2 := by
  unfold lams
  simp only [List.forall_mem_cons, List.not_mem_nil, false_imp_iff, implies_true, and_true]
  exact ⟨lam0 T, lam1 T, lam2 T, lam3 T, lam4 T, lam5 T⟩
end
end K48
namespace K48
open PySem PySem.Spec PyProof.Rows L2 Tc
set_option pp.maxSteps 600
def TT (K : PySem.W.Frag) : List (Addr × Str) := [((He.cT K lawAt).2, ("law" : Str) ++ ".<locals>." ++ "<lambda>")]
def spLaw (K : PySem.W.Frag) : Pins → Sp := fun _ vs H Q _ => ∃ (a : Addr) (ns : List Int), vs = [.ref a] ∧ SqL K H a (ns.map V.int) ∧ ns.length ≤ 63 ∧ LamX.Tabs (TT K) H ∧ ∀ H', Q (.bl true) H'
theorem le9 {n : Nat} (h : n ≤ 900) : n ≤ sizeLine := Nat.le_of_lt (small1000 (Nat.le_trans h (by decide)))
def names3 : List Str := ["a", "b", "cc"]
def calls3 : List (Str × Nat) := [("join", 2), ("f7", 1), ("g7", 3)]
theorem names_ok : ∀ x ∈ names3, nameOk x = true := by
  simp only [names3, List.forall_mem_cons, List.not_mem_nil, false_imp_iff, implies_true, and_true]
  exact ⟨by decide +kernel, by decide +kernel, by decide +kernel⟩
theorem good3 : GoodCalls calls3 := by
  refine ⟨?_, by decide, by decide +kernel, by decide +kernel⟩
  simp only [calls3, List.forall_mem_cons, List.not_mem_nil, false_imp_iff, implies_true, and_true]
  exact ⟨⟨by decide +kernel, by decide⟩, ⟨by decide +kernel, by decide⟩, ⟨by decide +kernel, by decide⟩⟩
theorem made3 {K : PySem.W.Frag} {H : Hp} {ln c1 c2 c3 lc : Addr} (n1 : H ln = none) (n2 : upd H ln (.lst [.str "a", .str "b", .str "cc"]) c1 = none) (n3 : upd (upd H ln (.lst [.str "a", .str "b", .str "cc"])) c1 (.tup [.str "join", .int 2]) c2 = none)
    (n4 : upd (upd (upd H ln (.lst [.str "a", .str "b", .str "cc"])) c1 (.tup [.str "join", .int 2])) c2 (.tup [.str "f7", .int 1]) c3 = none) (n5 : upd (upd (upd (upd H ln (.lst [.str "a", .str "b", .str "cc"])) c1 (.tup [.str "join", .int 2])) c2 (.tup [.str "f7", .int 1])) c3 (.tup [.str "g7", .int 3]) lc = none) :
    ∀ H', H' = upd (upd (upd (upd (upd H ln (.lst [.str "a", .str "b", .str "cc"])) c1 (.tup [.str "join", .int 2])) c2 (.tup [.str "f7", .int 1])) c3 (.tup [.str "g7", .int 3])) lc (.lst [.ref c1, .ref c2, .ref c3]) →
      Same H H' ∧ H' ln = some (.lst (names3.map V.str)) ∧ CallsAt K H' lc calls3 := by
  rintro H' rfl
  have s1 := Same.new (o := .lst [.str "a", .str "b", .str "cc"]) n1
  have s2 := Same.new (o := .tup [.str "join", .int 2]) n2
  have s3 := Same.new (o := .tup [.str "f7", .int 1]) n3
  have s4 := Same.new (o := .tup [.str "g7", .int 3]) n4
  have s5 := Same.new (o := .lst [.ref c1, .ref c2, .ref c3]) n5
  refine ⟨(((s1.trans s2).trans s3).trans s4).trans s5, s5 _ _ (s4 _ _ (s3 _ _ (s2 _ _ upd_same))), _, upd_same, ?_⟩
  exact .cons (.tup (SqT.of (s5 _ _ (s4 _ _ (s3 _ _ upd_same)))) (.cons (.str _) (.cons (.int _) .nil))) (.cons (.tup (SqT.of (s5 _ _ (s4 _ _ upd_same))) (.cons (.str _) (.cons (.int _) .nil))) (.cons (.tup (SqT.of (s5 _ _ upd_same)) (.cons (.str _) (.cons (.int _) .nil))) .nil))
def Good (K : PySem.W.Frag) (H : Hp) (x : V) : Prop := ∃ t : Trm, TmAt K H x t ∧ t.size ≤ 280 ∧ t.deep ≤ 10
theorem Good.ten {K : PySem.W.Frag} {H H' : Hp} {x : V} (h : Good K H x) (e : Ten H H') : Good K H' x := by
  obtain ⟨t, h, r⟩ := h
  exact ⟨t, TmAt.ten e h, r⟩
def Bad (K : PySem.W.Frag) (H : Hp) (x : V) : Prop := ∃ d : PyData, Dp K H x d ∧ plain d = true ∧ isTermD d = false ∧ Shows d
theorem Bad.ten {K : PySem.W.Frag} {H H' : Hp} {x : V} (h : Bad K H x) (e : Ten H H') : Bad K H' x := by
  obtain ⟨d, h1, h2, h3⟩ := h
  exact ⟨d, ten_dp e _ h2 h1, h2, h3⟩
def Odd (K : PySem.W.Frag) (t : Trm) (H : Hp) (x : V) : Prop := ∃ d : PyData, Dp K H x d ∧ plain d = true ∧ partD t d = none ∧ Shows d
theorem Odd.ten {K : PySem.W.Frag} {t : Trm} {H H' : Hp} {x : V} (h : Odd K t H x) (e : Ten H H') : Odd K t H' x := by
  obtain ⟨d, h1, h2, h3⟩ := h
  exact ⟨d, ten_dp e _ h2 h1, h2, h3⟩
theorem last_place {K : PySem.W.Frag} {H : Hp} {t : Trm} {fs : List V} (h : DpAll K H fs (placesD t [])) : ∃ (pre : List V) (r : V) (e : List Int × Trm), fs = pre ++ [r] ∧ Dp K H r (placeD e.1) ∧ partAt t e.1 = some e.2 ∧ e.2.parts = [] := by
  obtain ⟨e, he, hp⟩ := places_last t []
  have hl := dps_len h
  rw [placesD, List.length_map] at hl
  have he' : (t.places [])[(t.places []).length - 1]? = some e := by rw [← List.getLast?_eq_getElem?]; exact he
  have hpos : 0 < (t.places []).length := by
    rw [places_eq, List.length_cons]
    omega
  rcases List.eq_nil_or_concat fs with rfl | ⟨pre, r, rfl⟩
  · rw [List.length_nil] at hl
    omega
  · rw [List.concat_eq_append] at hl h ⊢
    rw [List.length_append, List.length_singleton] at hl
    have hx : (pre ++ [r])[pre.length]? = some r := by rw [List.getElem?_append_right (Nat.le_refl _), Nat.sub_self]; rfl
    obtain ⟨d, ed, dd⟩ := dps_get h hx
    have e2 : (t.places []).length - 1 = pre.length := by omega
    rw [placesD, List.getElem?_map, ← e2, he'] at ed
    cases ed
    exact ⟨pre, r, e, rfl, dd, places_part (List.mem_of_getElem? he'), hp⟩
theorem rowOk_of {X : Cx} {K : PySem.W.Frag} {ls : List (LamT × (XK → TE))} {σ : L2.St} {H : Hp} {x v : V} {lm : LamT} {what : Str} {t : XK → TE} {d : PyData} (hw : SeqAt.shaped (.tuple [.str "row", .str what]) = true) (h : RowAt X K H x ⟨lm, what, v⟩) (hm : (lm, t) ∈ ls) (hd : Dp K H v d) (hs : Shows d)
    (run : ∀ H1, Same H H1 → ∀ (E' : XK) (Q' : VK), Raises K "BadRow" [("row", v), ("what", .str what)] H1 E' → t E' σ H1 Q') : RowOk K (Mine X ls σ H) H x := by
  obtain ⟨tp, f, dt, rfl, q1, q2, m⟩ := h
  refine ⟨tp, f, dt, tMade1 X lm t σ f, [.str "row", .str what], v, [.str "row", .str what], d, rfl, q1, q2, .cons (.str _) (.cons (.str _) .nil), hw, ?_, hd, hs, ⟨(lm, t), hm, m, rfl⟩, fun H1 s1 => ⟨fun cls d' H2 => Same H1 H2 ∧ cls = .ref (He.ga K "BadRow") ∧ ∃ dd, d' = some dd ∧ H2 dd = some (.xd [("row", v), ("what", .str what)]), fun _ _ => False,
    fun E' Q' hE hQ => ⟨m.ext (.of s1), run H1 s1 E' Q' fun dd H2 s2 e => hE _ _ _ ⟨s2, rfl, dd, rfl, e⟩⟩, fun _ _ z => z, fun cls d' H2 ⟨s2, e1, dd, e2, e3⟩ => ⟨s2, 1, dd, _, by decide, e1, e2, e3, ⟨.str what, v, rfl, rfl, rfl⟩⟩⟩⟩
  simp [PyData.eqv, PyData.eqvAll]
section
variable {P : Program} {w : World} {K : PySem.W.Frag} {mg : Str → Option Value} {base : Heap}
theorem c_law (T : TX K mg) {fd : FuncData} (TB : LamX.TabB base mg (He.cT K lawAt).1 (He.cT K lawAt).2) (F : Fun K "law" "law" s_law (He.fAd K lawAt) fd) : FnG P w K mg base CX0 Quiet 34 (He.fAd K lawAt) fd ["script"] (spLaw K) := by
  refine funGT (calm := true) F sc_law (fun _ q _ => q.1) (fun pn vs H Q E h => by obtain ⟨a, ns, rfl, _⟩ := h; rfl) fun pn A outer s H vs Q E qu hr0 h => ?_
  obtain ⟨a, ns, rfl, hS, hns, htb, kk⟩ := h
  have hr : Room 33 (XL pn P w K mg base A outer s H E).A := ⟨qu.1, hr0.dp, hr0.un⟩
  have hls := lams_ok (P := P) (w := w) (base := base) (pn := pn) (A := A) (outer := outer) (s := s) (H := H) (E := E) T
  have hm : ((He.cT K lawAt).2, (XL pn P w K mg base A outer s H E).env.qual ++ "<lambda>") ∈ TT K := List.mem_singleton.mpr rfl
  have hq : ∀ z ∈ TT K, z.1 = (He.cT K lawAt).2 → z.2 = (XL pn P w K mg base A outer s H E).env.qual ++ "<lambda>" := fun z hz _ => by rw [List.mem_singleton.mp hz]; rfl
  refine ⟨_,
    --W law h_law48.json
    (pss_cons (ps_set (i := 1) sc_law.nd rfl (by first | exact Or.inl rfl | exact Or.inr rfl) (pe_f (c_law_pen T) hr (pa_cons (pv 0) pa_nil)))
    (pss_cons (ps_for (passes_of rfl) rfl (pi_range1 (by rfl) (g_range T) (pa_cons pe_int pa_nil)) (pg_name (i := 2) sc_law.nd rfl (by first | exact Or.inl rfl | exact Or.inr rfl))
    (pss_cons (ps_set (i := 3) sc_law.nd rfl (by first | exact Or.inl rfl | exact Or.inr rfl) (pe_f (c_law_drawn_term T 4) hr (pa_cons (pv 1) (pa_cons (pe_lst (pa_cons pe_str (pa_cons pe_str (pa_cons pe_str pa_nil)))) (pa_cons (pe_lst (pa_cons (pe_tup (pa_cons pe_str (pa_cons pe_int pa_nil))) (pa_cons (pe_tup (pa_cons pe_str (pa_cons pe_int pa_nil))) (pa_cons (pe_tup (pa_cons pe_str (pa_cons pe_int pa_nil))) pa_nil)))) (pa_cons pe_int pa_nil))))))
    (C8.pss_cut (ps_if (pt_cmpR op_eq (pe_f (c_law_draw T) hr (pa_cons (pv 1) (pa_cons pe_int pa_nil))) pe_int (nomark _))
    (pss_cons (ps_set (i := 4) sc_law.nd rfl (by first | exact Or.inl rfl | exact Or.inr rfl) (pe_tup (pa_cons pe_str (pa_cons pe_str (pa_cons (pv 3) (pa_cons pe_str (pa_cons pe_str (pa_cons (pe_f (c_law_p T) hr (pa_cons (pe_f (c_law_n T) hr (pa_cons pe_str pa_nil)) (pa_cons (pv 3) pa_nil))) pa_nil))))))))
    (pss_one (ps_set (i := 3) sc_law.nd rfl (by first | exact Or.inl rfl | exact Or.inr rfl) (pe_f (c_law_pick T) hr (pa_cons (pv 1) (pa_cons (pe_lst (pa_cons (pv 4) (pa_cons (pe_f (c_law_p T) hr (pa_cons (pv 4) (pa_cons (pv 3) pa_nil))) (pa_cons (pe_f (c_law_c T) hr (pa_cons pe_str (pa_cons (pe_lst (pa_cons (pe_f (c_law_p T) hr (pa_cons (pe_f0 (c_law_nil T) hr) (pa_cons (pv 4) pa_nil))) pa_nil)) pa_nil))) pa_nil)))) pa_nil))))))
    pss_nil)
    (pss_cons (ps_set (i := 5) sc_law.nd rfl (by first | exact Or.inl rfl | exact Or.inr rfl) (pe_f (c_law_places T 12) hr (pa_cons (pv 3) (pa_cons (pe_tup pa_nil) pa_nil))))
    (pss_cons (ps_if (pt_not (pt_val (pe_f (c_law_is T 30) hr (pa_cons (pe_fX (c_places_in T) hr takes0 (pa_cons (pv 3) pa_nil)) (pa_cons (pe_callTy call_tuple_of (by rfl) (g_tuple T) PyProof.Rows.boot_tuple (pa_cons (pv 5) pa_nil)) pa_nil)))))
    (pss_one (ps_ret pe_bl))
    pss_nil)
    (pss_cons (ps_for (passes_of rfl) rfl (pi_range1 (by rfl) (g_range T) (pa_cons pe_int pa_nil)) (pg_name (i := 6) sc_law.nd rfl (by first | exact Or.inl rfl | exact Or.inr rfl))
    (pss_cons (ps_set (i := 7) sc_law.nd rfl (by first | exact Or.inl rfl | exact Or.inr rfl) (pe_f (c_law_pick T) hr (pa_cons (pv 1) (pa_cons (pv 5) pa_nil))))
    (pss_cons (ps_par (i := 8) (j := 9) rfl sc_law.nd rfl rfl (by decide) rfl rfl (pa_cons (pe_f (c_law_pick T) hr (pa_cons (pv 1) (pa_cons (pe_lst (pa_cons (pv 7) (pa_cons (pe_callTy call_list_of (by rfl) (g_list T) PyProof.Rows.boot_list (pa_cons (pv 7) pa_nil)) pa_nil))) pa_nil))) (pa_cons (pe_f (c_law_drawn_term T 4) hr (pa_cons (pv 1) (pa_cons (pe_lst (pa_cons pe_str pa_nil)) (pa_cons (pe_lst pa_nil) (pa_cons pe_int pa_nil))))) pa_nil)) rfl)
    (pss_cons (ps_if (pt_not (pt_val (pe_f (c_law_is T 30) hr (pa_cons (pe_fX (c_part_at T) hr takes0 (pa_cons (pv 3) (pa_cons (pv 8) pa_nil))) (pa_cons (pe_f (c_law_part T) hr (pa_cons (pv 3) (pa_cons (pv 7) pa_nil))) pa_nil)))))
    (pss_one (ps_ret pe_bl))
    pss_nil)
    (pss_cons (ps_if (pt_not (pt_val (pe_f (c_law_is T 30) hr (pa_cons (pe_fX (c_with_part T) hr takes0 (pa_cons (pv 3) (pa_cons (pv 8) (pa_cons (pv 9) pa_nil)))) (pa_cons (pe_f (c_law_other T 12) hr (pa_cons (pv 3) (pa_cons (pv 7) (pa_cons (pv 9) pa_nil)))) pa_nil)))))
    (pss_one (ps_ret pe_bl))
    pss_nil)
    (pss_one (ps_if (pt_not (pt_val (pe_f (c_law_is T 30) hr (pa_cons (pe_fX (c_with_part T) hr takes0 (pa_cons (pv 3) (pa_cons (pv 7) (pa_cons (pe_fX (c_part_at T) hr takes0 (pa_cons (pv 3) (pa_cons (pv 7) pa_nil))) pa_nil)))) (pa_cons (pv 3) pa_nil)))))
    (pss_one (ps_ret pe_bl))
    pss_nil)))))))
    (pss_cons (ps_set (i := 10) sc_law.nd rfl (by first | exact Or.inl rfl | exact Or.inr rfl) (pe_f (c_law_pick T) hr (pa_cons (pv 1) (pa_cons (pe_lst (pa_cons pe_non (pa_cons pe_int (pa_cons (pe_tup (pa_cons pe_str (pa_cons pe_int pa_nil))) (pa_cons (pe_tup (pa_cons pe_str (pa_cons pe_str (pa_cons pe_int pa_nil)))) pa_nil))))) pa_nil))))
    (pss_cons (ps_set (i := 11) sc_law.nd rfl (by first | exact Or.inl rfl | exact Or.inr rfl) (pe_f (c_law_pick T) hr (pa_cons (pv 1) (pa_cons (pe_lst (pa_cons pe_non (pa_cons pe_int (pa_cons (pe_op op_catA (pe_ix (r := rIx K) ix_seq (pv 5) (pe_un un_neg pe_int) (fun _ _ => rfl)) (pe_tup (pa_cons pe_int pa_nil))) (pa_cons (pe_tup (pa_cons pe_int pa_nil)) (pa_cons (pe_tup (pa_cons (pe_un un_neg pe_int) pa_nil)) (pa_cons (pe_tup (pa_cons pe_non pa_nil)) (pa_cons (pe_tup (pa_cons pe_str pa_nil)) (pa_cons pe_str pa_nil))))))))) pa_nil))))
    (pss_cons (ps_set (i := 12) sc_law.nd rfl (by first | exact Or.inl rfl | exact Or.inr rfl) (pe_lst (pa_cons (pe_tup (pa_cons (pe_lam (l := l0) ls0 TB rfl hm hq) (pa_cons (pe_tup (pa_cons pe_str (pa_cons pe_str (pa_cons (pv 10) pa_nil)))) pa_nil))) pa_nil)))
    (pss_cons (ps_expr (pe_app rfl (pv 12) (pa_cons (pe_tup (pa_cons (pe_lam (l := l1) ls1 TB rfl hm hq) (pa_cons (pe_tup (pa_cons pe_str (pa_cons pe_str (pa_cons (pv 10) pa_nil)))) pa_nil))) pa_nil)))
    (pss_cons (ps_expr (pe_app rfl (pv 12) (pa_cons (pe_tup (pa_cons (pe_lam (l := l2) ls2 TB rfl hm hq) (pa_cons (pe_tup (pa_cons pe_str (pa_cons pe_str (pa_cons (pv 11) pa_nil)))) pa_nil))) pa_nil)))
    (pss_cons (ps_expr (pe_app rfl (pv 12) (pa_cons (pe_tup (pa_cons (pe_lam (l := l3) ls3 TB rfl hm hq) (pa_cons (pe_tup (pa_cons pe_str (pa_cons pe_str (pa_cons (pv 10) pa_nil)))) pa_nil))) pa_nil)))
    (pss_cons (ps_expr (pe_app rfl (pv 12) (pa_cons (pe_tup (pa_cons (pe_lam (l := l4) ls4 TB rfl hm hq) (pa_cons (pe_tup (pa_cons pe_str (pa_cons pe_str (pa_cons (pv 11) pa_nil)))) pa_nil))) pa_nil)))
    (pss_cons (ps_expr (pe_app rfl (pv 12) (pa_cons (pe_tup (pa_cons (pe_lam (l := l5) ls5 TB rfl hm hq) (pa_cons (pe_tup (pa_cons pe_str (pa_cons pe_str (pa_cons (pv 10) pa_nil)))) pa_nil))) pa_nil)))
    (pss_one (ps_if (pt_not (pt_val (pe_m (ka := 30) (c_law_raise_so T 31) (lams K) hls hr qu (pa_cons (pv 12) pa_nil))))
    (pss_one (ps_ret pe_bl))
    pss_nil))))))))))))))))
    (pss_one (ps_ret pe_bl))))
    --/W
    , ?_⟩
  refine ⟨_, rfl, a, ns, rfl, hS, hns, fun p H1 hp0 n1 s1 => ?_⟩
  obtain ⟨c, hp1⟩ := PenC.of hp0
  have ht1 := htb.ext s1
  refine ⟨8, rfl, by decide, by decide, for_range (fun _ σ H' => ∃ o2 o3 o4 o5 o6 o7 o8 o9 o10 o11 o12, σ = [some (.ref a), some (.ref p), o2, o3, o4, o5, o6, o7, o8, o9, o10, o11, o12] ∧ PenC H' p c ∧ LamX.Tabs (TT K) H') ⟨none, none, none, none, none, none, none, none, none, none, none, rfl, hp1, ht1⟩ ?_ fun _ H' _ => kk H'⟩
  rintro i σ H2 hi ⟨o2, o3, o4, o5, o6, o7, o8, o9, o10, o11, o12, rfl, hp2, ht2⟩
  -- the term
  refine ⟨_, rfl, le9 (by simp), fun ln nln => ⟨le9 (by simp), fun c1 nc1 => ⟨le9 (by simp), fun c2 nc2 => ⟨le9 (by simp), fun c3 nc3 => ⟨le9 (by simp), fun lc nlc => ?_⟩⟩⟩⟩⟩
  obtain ⟨s3, en3, hcs3⟩ := made3 (K := K) nln nc1 nc2 nc3 nlc _ rfl
  have hp3 := hp2.same s3
  have ht3 := ht2.ext s3
  clear nln nc1 nc2 nc3
  refine ⟨p, c, ln, lc, names3, calls3, 3, rfl, by decide, hp3, en3, names_ok, by decide, hcs3, good3, fun v0 tt H4 hp4 b4 hv4 hz4 hd4 => ?_⟩
  have ht4 := Tc.Tabs.penC ht3 hp3 b4
  replace hz4 : tt.size ≤ 85 := hz4
  replace hd4 : tt.deep ≤ 4 := hd4
  clear hp3 ht3 b4 hcs3 en3 s3 hp2 ht2 nlc
  refine ⟨fun σ H' => ∃ (v : V) (t : Trm) (o4 : Option V), σ = [some (.ref a), some (.ref p), some (.int (0 + (i : Int))), some v, o4, o5, o6, o7, o8, o9, o10, o11, o12] ∧ PenC H' p c ∧ LamX.Tabs (TT K) H' ∧ TmAt K H' v t ∧ t.size ≤ 280 ∧ t.deep ≤ 10, ?_, ?_⟩
  · -- a case around it
    refine ⟨_, rfl, p, c, 2, rfl, hp4, by decide, by decide, fun r H5 r0 r1 hp5 b5 => ⟨rfl, _, rfl, ?_⟩⟩
    have ht5 := Tc.Tabs.penC ht4 hp4 b5
    have hv5 := TmAt.ten (Ten.penC hp4 b5) hv4
    refine ite2 (fun _ => ?_) (fun _ => ⟨v0, tt, o4, rfl, hp5, ht5, hv5, by omega, by omega⟩)
    -- the case
    refine ⟨_, rfl, "h", rfl, by decide +kernel, fun z1 H6 s6 hz1 => ⟨_, rfl, z1, v0, _, tt, rfl, hz1, TmAt.ten (Ten.of_same s6) hv5, fun z2 H7 s7 hz2 => ⟨le9 (by simp), fun ca nca => ?_⟩⟩⟩
    have s57 := s6.trans s7
    have s8 : Same H7 (upd H7 ca (.tup [.str "case", .str "a", v0, .str "h", .str "r", z2])) := Same.new nca
    have eca : upd H7 ca (.tup [.str "case", .str "a", v0, .str "h", .str "r", z2]) ca = some (.tup [.str "case", .str "a", v0, .str "h", .str "r", z2]) := upd_same
    generalize upd H7 ca (.tup [.str "case", .str "a", v0, .str "h", .str "r", z2]) = H8 at s8 eca ⊢
    have s58 := s57.trans s8
    have hv8 := TmAt.ten (Ten.of_same s58) hv5
    have hz2' := TmAt.ten (Ten.of_same s8) hz2
    have hC8 : TmAt K H8 (.ref ca) (.mk (.case "a" "h" "r") [tt, .mk .pair [.mk (.nm "h") [], tt]]) := by
      refine ⟨.tup (SqT.of eca) (.cons (.str _) (.cons (.str _) (.cons hv8.1 (.cons (.str _) (.cons (.str _) (.cons hz2'.1 .nil)))))), ?_⟩
      show (fits (.case "a" "h" "r") 2 && (tt.ok && (Trm.ok (.mk .pair [.mk (.nm "h") [], tt]) && oks []))) = true
      rw [hv8.2, hz2'.2]
      decide +kernel
    generalize hCT : Trm.mk (.case "a" "h" "r") [tt, .mk .pair [.mk (.nm "h") [], tt]] = CT at hC8
    have hCs : CT.size ≤ 180 ∧ CT.deep ≤ 6 := by
      subst hCT
      simp only [Trm.size, sizes, Trm.deep, deeps]
      constructor <;> omega
    have hp8 := hp5.same s58
    have ht8 := ht5.ext s58
    -- one of three
    refine ⟨_, rfl, _, rfl, _, rfl, _, rfl, .ref ca, v0, CT, tt, rfl, hC8, hv8, fun z3 H9 s9 hz3 => ⟨rfl, fun z4 H10 s10 hz4 => ⟨_, rfl, z4, .ref ca, _, CT, rfl, hz4, TmAt.ten (Ten.of_same (s9.trans s10)) hC8, fun z5 H11 s11 hz5 => ⟨le9 (by simp), fun l1 nl1 => ?_⟩⟩⟩⟩
    have s12 : Same H11 (upd H11 l1 (.lst [z5])) := Same.new nl1
    refine ⟨"f7", l1, [z5], [_], rfl, by decide +kernel, upd_same, .cons (TmAt.ten (Ten.of_same s12) hz5) .nil, by simp, fun z6 H13 s13 hz6 => ⟨le9 (by simp), fun l2 nl2 => ?_⟩⟩
    have s14 : Same H13 (upd H13 l2 (.lst [.ref ca, z3, z6])) := Same.new nl2
    have el : upd H13 l2 (.lst [.ref ca, z3, z6]) l2 = some (.lst [.ref ca, z3, z6]) := upd_same
    generalize upd H13 l2 (.lst [.ref ca, z3, z6]) = H14 at s14 el ⊢
    have s914 := (((s10.trans s11).trans s12).trans s13).trans s14
    have s814 := s9.trans s914
    have hp14 := hp8.same s814
    have ht14 := ht8.ext s814
    have each : ∀ y ∈ [V.ref ca, z3, z6], Good K H14 y := by
      simp only [List.forall_mem_cons, List.not_mem_nil, false_imp_iff, implies_true, and_true]
      refine ⟨⟨CT, TmAt.ten (Ten.of_same s814) hC8, by omega, by omega⟩, ⟨_, TmAt.ten (Ten.of_same s914) hz3, ?_, ?_⟩, ⟨_, TmAt.ten (Ten.of_same s14) hz6, ?_, ?_⟩⟩ <;> simp only [Trm.size, sizes, Trm.deep, deeps] <;> omega
    refine ⟨p, c, l2, _, rfl, hp14.lst el, hp14, .inl (SqL.of el), by simp, by simp, fun j x H15 hx hp15 b15 => ?_⟩
    obtain ⟨t, ht, hz, hd⟩ := (each x (List.mem_of_getElem? hx)).ten (Ten.penC hp14 b15)
    exact ⟨x, t, some (.ref ca), rfl, hp15, Tc.Tabs.penC ht14 hp14 b15, ht, hz, hd⟩
  · rintro σ H5 ⟨v, t, o4', rfl, hp5, ht5, hv5, hz5, hd5⟩
    clear hv4 hz4 hd4 hp4 ht4
    -- its places
    refine ⟨_, rfl, Nat.zero_le _, fun e0 ne0 => ?_⟩
    have s6 : Same H5 (upd H5 e0 (.tup [])) := Same.new ne0
    refine ⟨v, e0, t, [], rfl, TmAt.ten (Ten.of_same s6) hv5, SqT.of upd_same, Nat.le_trans hd5 (by decide), Nat.le_trans hz5 (by decide), by show 0 + t.deep ≤ 900; omega, fun f fs H7 s7 ef hfs => ?_⟩
    have s57 := s6.trans s7
    have hv7 := TmAt.ten (Ten.of_same s57) hv5
    have hp7 := hp5.same s57
    have ht7 := ht5.ext s57
    obtain ⟨tp1, tp2⟩ := tup_places t (by omega) (by omega)
    have hfl := dps_len hfs
    rw [placesD, List.length_map] at hfl
    have htl := places_len t []
    refine ⟨_, rfl, v, rfl, .inl ⟨t, hv7, by omega, by omega, fun q us H8 s8 hq8 hus8 => ⟨_, rfl, f, fs, rfl, .inl ⟨SqL.of (s8 _ _ ef), fun q2 nq2 => ?_⟩⟩⟩⟩
    have s9 : Same H8 (upd H8 q2 (.tup fs)) := Same.new nq2
    have hfs9 := ten_places (es := t.places []) (Ten.of_same (s8.trans s9)) hfs
    have hus9 := ten_places (es := t.places []) (Ten.of_same s9) hus8
    refine ⟨.ref q, .ref q2, .tuple (placesD t []), rfl, .tup ((Ten.of_same s9).tup hq8) hus9, .tup (SqT.of upd_same) hfs9, tp1, Nat.le_trans tp2 (by decide), Nat.le_trans tp2 (by decide), fun H10 s10 => ⟨true, rfl, iteF ?_⟩⟩
    have s710 := (s8.trans s9).trans s10
    have hp10 := hp7.same s710
    have ht10 := ht7.ext s710
    have hv10 := TmAt.ten (Ten.of_same s710) hv7
    have ef10 := s710 _ _ ef
    have hfs10 := ten_places (es := t.places []) (Ten.of_same s710) hfs
    clear hus9 hfs9 s9 s10 nq2 hq8 hus8 s8 hfs ef hv7 hp7 ht7 s7 s6 ne0 hp5 ht5 hv5 s57 s710
    have hpos : 0 < (t.places []).length := by rw [places_eq, List.length_cons]; omega
    -- four turns
    refine ⟨4, rfl, by decide, by decide, for_range (fun _ σ H' => ∃ o6 o7 o8 o9, σ = [some (.ref a), some (.ref p), some (.int (0 + (i : Int))), some v, o4', some (.ref f), o6, o7, o8, o9, o10, o11, o12] ∧ PenC H' p c ∧ LamX.Tabs (TT K) H' ∧ TmAt K H' v t ∧ H' f = some (.lst fs) ∧ DpAll K H' fs (placesD t [])) ⟨o6, o7, o8, o9, rfl, hp10, ht10, hv10, ef10, hfs10⟩ ?_ ?_⟩
    · rintro i2 σ H11 hi2 ⟨o6, o7, o8, o9, rfl, hp11, ht11, hv11, ef11, hfs11⟩
      clear hp10 ht10 hv10 ef10 hfs10
      -- a place
      refine ⟨_, rfl, _, rfl, p, c, f, fs, rfl, hp11.lst ef11, hp11, .inl (SqL.of ef11), by omega, by omega, fun j x H12 hx hp12 b12 => ?_⟩
      have t12 := Ten.penC hp11 b12
      obtain ⟨d, ed, dd⟩ := dps_get hfs11 hx
      rw [placesD, List.getElem?_map] at ed
      obtain ⟨e, ee, rfl⟩ := Option.map_eq_some_iff.mp ed
      have hem := List.mem_of_getElem? ee
      have hpart := places_part hem
      have hsm := partAt_small hpart
      have hplen : e.1.length ≤ 10 := by omega
      have hpp := place_plain (pl := e.1) (by omega)
      have hpd : partD t (placeD e.1) = some e.2 := by rw [← hpart]; exact partsD_ints
      have ht12 := Tc.Tabs.penC ht11 hp11 b12
      have hv12 := TmAt.ten t12 hv11
      have ef12 := b12 _ _ (hp11.lst ef11) ef11
      have hfs12 := ten_places (es := t.places []) t12 hfs11
      have dx12 := ten_dp t12 _ hpp dd
      obtain ⟨pp, rfl, hq12⟩ := place_of dx12
      clear dd hx hfs11 ef11 hv11 ht11 t12 b12 hp11 ed
      -- given as it is, or as a list; another term
      refine ⟨_, rfl, _, rfl, _, rfl, pp, _, rfl, .inr hq12, fun l1 nl1 => ⟨le9 (by simp), fun l2 nl2 => ?_⟩⟩
      have s13 : Same H12 (upd H12 l1 (.lst (e.1.map V.int))) := Same.new nl1
      have el1 : upd H12 l1 (.lst (e.1.map V.int)) l1 = some (.lst (e.1.map V.int)) := upd_same
      generalize upd H12 l1 (.lst (e.1.map V.int)) = H13 at s13 el1 nl2 ⊢
      have s14 : Same H13 (upd H13 l2 (.lst [.ref pp, .ref l1])) := Same.new nl2
      have el2 : upd H13 l2 (.lst [.ref pp, .ref l1]) l2 = some (.lst [.ref pp, .ref l1]) := upd_same
      generalize upd H13 l2 (.lst [.ref pp, .ref l1]) = H14 at s14 el2 ⊢
      have s24 := s13.trans s14
      have hp14 := hp12.same s24
      refine ⟨p, c, l2, _, rfl, hp14.lst el2, hp14, .inl (SqL.of el2), by simp, by simp, fun j2 y H15 hy hp15 b15 => ?_⟩
      have t15 := Ten.penC hp14 b15
      have t25 := (Ten.of_same s24).trans t15
      have el15 := b15 _ _ (hp14.lst (s14 _ _ el1)) (s14 _ _ el1)
      have dx15 := ten_dp t25 _ hpp dx12
      have hG15 : Given K H15 y (placeD e.1) := by
        match j2, hy with
        | 0, hy =>
          cases hy
          exact .inl ⟨dx15, hpp⟩
        | 1, hy =>
          cases hy
          exact .inr ⟨l1, e.1, rfl, el15, by omega, rfl⟩
        | j + 2, hy => simp at hy
      have ht15 := Tc.Tabs.penC (ht12.ext s24) hp14 b15
      have hv15 := TmAt.ten t25 hv12
      have ef15 := b15 _ _ (hp14.lst (s24 _ _ ef12)) (s24 _ _ ef12)
      have hfs15 := ten_places (es := t.places []) t25 hfs12
      have hq15 := t25.tup hq12
      clear hfs12 ef12 hv12 ht12 hq12 dx12 t25 t15 el2 el1 s13 s14 nl1 nl2 hy
      refine ⟨_, rfl, le9 (by simp), fun n1 nn1 => ⟨Nat.zero_le _, fun n2 nn2 => ?_⟩⟩
      have s16 : Same H15 (upd H15 n1 (.lst [.str "a"])) := Same.new nn1
      have e16 : upd H15 n1 (.lst [.str "a"]) n1 = some (.lst ([("a" : Str)].map V.str)) := upd_same
      generalize upd H15 n1 (.lst [.str "a"]) = H16 at s16 e16 nn2 ⊢
      have s17 : Same H16 (upd H16 n2 (.lst [])) := Same.new nn2
      have e17 : upd H16 n2 (.lst []) n2 = some (.lst []) := upd_same
      generalize upd H16 n2 (.lst []) = H17 at s17 e17 ⊢
      have s57 := s16.trans s17
      have hp17 := hp15.same s57
      refine ⟨p, c, n1, n2, ["a"], [], 1, rfl, by decide, hp17, s17 _ _ e16, fun x hx => by rcases List.mem_singleton.mp hx with rfl; decide +kernel, by decide, ⟨[], e17, .nil⟩, good_nil, fun zn tn H18 hp18 b18 hzn hsn hdn => ⟨_, _, rfl, ?_⟩⟩
      replace hsn : tn.size ≤ 5 := hsn
      replace hdn : tn.deep ≤ 2 := hdn
      have t18 := Ten.penC hp17 b18
      have t58 := (Ten.of_same s57).trans t18
      have ht18 := Tc.Tabs.penC (ht15.ext s57) hp17 b18
      have hv18 := TmAt.ten t58 hv15
      have ef18 := b18 _ _ (hp17.lst (s57 _ _ ef15)) (s57 _ _ ef15)
      have hfs18 := ten_places (es := t.places []) t58 hfs15
      have hq18 := t58.tup hq15
      have dx18 := ten_dp t58 _ hpp dx15
      have hG18 : Given K H18 y (placeD e.1) := by
        rcases hG15 with ⟨h1, h2⟩ | ⟨l, pl, rfl, el, hl, epl⟩
        · exact .inl ⟨ten_dp t58 _ h2 h1, h2⟩
        · exact .inr ⟨l, pl, rfl, b18 _ _ (hp17.lst (s57 _ _ el)) (s57 _ _ el), hl, epl⟩
      clear hG15 dx15 hq15 hfs15 ef15 hv15 ht15 t58 t18 s16 s17 e16 e17 nn1 nn2 hp15 hp14 hp12 b15 b18 el15
      have hu1 := data_depth e.2
      have hu2 := plain_data e.2 (partAt_ok hpart hv18.2)
      -- the part there
      refine ⟨_, rfl, _, rfl, v, y, rfl, .inr ⟨t, placeD e.1, hv18, by omega, by omega, hG18, fun hno => absurd (hpd.symm.trans hno) (by simp), fun u hu y1 H19 s19 hy1 => ?_⟩⟩
      cases Option.some.inj (hpd.symm.trans hu)
      refine ⟨_, rfl, _, rfl, v, pp, t, e.2, e.1, rfl, TmAt.ten (Ten.of_same s19) hv18, (Ten.of_same s19).tup hq18, hpart, fun y2 H20 s20 hy2 => ?_⟩
      refine ⟨y1, y2, e.2.data, rfl, (TmAt.ten (Ten.of_same s20) hy1).1, hy2.1, hu2, show e.2.data.depth ≤ 29 by omega, by omega, fun H21 s21 => ⟨true, rfl, iteF ?_⟩⟩
      have sA := (s19.trans s20).trans s21
      clear s19 s20 s21 hy1 hy2 hu
      have hpO : (Tc.putAt t e.1 tn).ok = true := putAt_ok hpart hv18.2 hzn.2
      have hsO := putAt_size (o := tn) hpart
      have hdO := putAt_deep (o := tn) hpart
      have hO1 := data_depth (Tc.putAt t e.1 tn)
      have hO2 := plain_data _ hpO
      have giv : ∀ H', Same H18 H' → Given K H' y (placeD e.1) := fun H' s' => by
        rcases hG18 with ⟨h1, h2⟩ | ⟨l, pl, rfl, el, hl, epl⟩
        · exact .inl ⟨ten_dp (Ten.of_same s') _ h2 h1, h2⟩
        · exact .inr ⟨l, pl, rfl, s' _ _ el, hl, epl⟩
      have hvA := TmAt.ten (Ten.of_same sA) hv18
      have hznA := TmAt.ten (Ten.of_same sA) hzn
      -- another part put there
      refine ⟨_, rfl, _, rfl, _, rfl, v, y, zn, rfl, .inr ⟨t, placeD e.1, hvA, by omega, by omega, giv _ sA, .inr ⟨e.1, e.2, rfl, hpart, .inr ⟨tn, hznA, by omega, by omega, by omega, by omega, fun z1 H22 s22 hz1 => ?_⟩⟩⟩⟩
      have sB := sA.trans s22
      refine ⟨_, rfl, _, rfl, _, rfl, v, .ref pp, zn, t, tn, e.1, rfl, TmAt.ten (Ten.of_same sB) hv18, ⟨pp, rfl, (Ten.of_same sB).tup hq18⟩, TmAt.ten (Ten.of_same sB) hzn, show e.1.length ≤ 11 by omega, by rw [hpart]; rfl, fun z2 H23 s23 hz2 => ?_⟩
      refine ⟨z1, z2, (Tc.putAt t e.1 tn).data, rfl, (TmAt.ten (Ten.of_same s23) hz1).1, hz2.1, hO2, show (Tc.putAt t e.1 tn).data.depth ≤ 29 by omega, by omega, fun H24 s24 => ⟨true, rfl, iteF ?_⟩⟩
      have sC := (sB.trans s23).trans s24
      clear s22 s23 s24 hz1 hz2 sB hznA hvA
      have hvC := TmAt.ten (Ten.of_same sC) hv18
      have dxC : Dp K H24 (.ref pp) (placeD e.1) := ten_dp (Ten.of_same sC) _ hpp dx18
      -- the same part put there
      refine ⟨_, rfl, _, rfl, _, rfl, _, rfl, v, .ref pp, rfl, .inr ⟨t, placeD e.1, hvC, by omega, by omega, .inl ⟨dxC, hpp⟩, fun hno => absurd (hpd.symm.trans hno) (by simp), fun u hu y1 H25 s25 hy1 => ?_⟩⟩
      cases Option.some.inj (hpd.symm.trans hu)
      have sD := sC.trans s25
      have hself := putAt_self hpart
      refine ⟨v, .ref pp, y1, rfl, .inr ⟨t, placeD e.1, TmAt.ten (Ten.of_same sD) hv18, by omega, by omega, .inl ⟨ten_dp (Ten.of_same s25) _ hpp dxC, hpp⟩, .inr ⟨e.1, e.2, rfl, hpart, .inr ⟨e.2, hy1, by omega, by omega, by rw [hself]; omega, by rw [hself]; omega, fun z1 H26 s26 hz1 => ?_⟩⟩⟩⟩
      rw [hself] at hz1
      have hT1 := data_depth t
      have hT2 := plain_data t hv18.2
      have sE := sD.trans s26
      refine ⟨_, rfl, z1, v, t.data, rfl, hz1.1, (TmAt.ten (Ten.of_same sE) hv18).1, hT2, show t.data.depth ≤ 29 by omega, by omega, fun H27 s27 => ⟨true, rfl, iteF ?_⟩⟩
      have sF := sE.trans s27
      exact ⟨_, _, _, _, rfl, hp18.same sF, ht18.ext sF, TmAt.ten (Ten.of_same sF) hv18, sF _ _ ef18, ten_places (es := t.places []) (Ten.of_same sF) hfs18⟩
    · rintro σ H11 ⟨o6, o7, o8, o9, rfl, hp11, ht11, hv11, ef11, hfs11⟩
      clear hp10 ht10 hv10 ef10 hfs10
      -- a value that is no term
      refine ⟨_, rfl, le9 (by simp), fun b1 nb1 => ⟨le9 (by simp), fun b2 nb2 => ⟨le9 (by simp), fun l1 nl1 => ?_⟩⟩⟩
      have s12 : Same H11 (upd H11 b1 (.tup [.str "nil", .int 0])) := Same.new nb1
      have e12 : upd H11 b1 (.tup [.str "nil", .int 0]) b1 = some (.tup [.str "nil", .int 0]) := upd_same
      generalize upd H11 b1 (.tup [.str "nil", .int 0]) = H12 at s12 e12 nb2 nl1 ⊢
      have s13 : Same H12 (upd H12 b2 (.tup [.str "call", .str "f", .int 5])) := Same.new nb2
      have e13 : upd H12 b2 (.tup [.str "call", .str "f", .int 5]) b2 = some (.tup [.str "call", .str "f", .int 5]) := upd_same
      generalize upd H12 b2 (.tup [.str "call", .str "f", .int 5]) = H13 at s13 e13 nl1 ⊢
      have s14 : Same H13 (upd H13 l1 (.lst [.non, .int 5, .ref b1, .ref b2])) := Same.new nl1
      have e14 : upd H13 l1 (.lst [.non, .int 5, .ref b1, .ref b2]) l1 = some (.lst [.non, .int 5, .ref b1, .ref b2]) := upd_same
      generalize upd H13 l1 (.lst [.non, .int 5, .ref b1, .ref b2]) = H14 at s14 e14 ⊢
      have each : ∀ z ∈ [V.non, .int 5, .ref b1, .ref b2], Bad K H14 z := by
        simp only [List.forall_mem_cons, List.not_mem_nil, false_imp_iff, implies_true, and_true]
        refine ⟨⟨.none, .non, rfl, bad_none, by decide +kernel, by decide +kernel, by decide +kernel⟩, ⟨.int 5, .int 5, rfl, bad_int, by decide +kernel, by decide +kernel, by decide +kernel⟩,
          ⟨.tuple [.str "nil", .int 0], .tup (SqT.of (s14 _ _ (s13 _ _ e12))) (.cons (.str _) (.cons (.int _) .nil)), by decide +kernel, bad_nil, by decide +kernel, by decide +kernel, by decide +kernel⟩,
          ⟨.tuple [.str "call", .str "f", .int 5], .tup (SqT.of (s14 _ _ e13)) (.cons (.str _) (.cons (.str _) (.cons (.int _) .nil))), by decide +kernel, bad_call, by decide +kernel, by decide +kernel, by decide +kernel⟩⟩
      have sA := (s12.trans s13).trans s14
      have hp14 := hp11.same sA
      refine ⟨p, c, l1, _, rfl, hp14.lst e14, hp14, .inl (SqL.of e14), by simp, by simp, fun j bad H15 hx hp15 b15 => ?_⟩
      have t15 := Ten.penC hp14 b15
      have tA := (Ten.of_same sA).trans t15
      have hbad := (each bad (List.mem_of_getElem? hx)).ten t15
      have ht15 := Tc.Tabs.penC (ht11.ext sA) hp14 b15
      have hv15 := TmAt.ten tA hv11
      have ef15 := b15 _ _ (hp14.lst (sA _ _ ef11)) (sA _ _ ef11)
      have hfs15 := ten_places (es := t.places []) tA hfs11
      clear hfs11 ef11 hv11 ht11 hp11 hp14 tA t15 hx each sA e14 s14 e13 s13 e12 s12 nb1 nb2 nl1 b15
      -- an odd place
      obtain ⟨pre, r0, e, rfl, dr, hpart, hnop⟩ := last_place hfs15
      have hsm := partAt_small hpart
      obtain ⟨pa, rfl, hqa⟩ := place_of dr
      refine ⟨_, rfl, _, rfl, _, rfl, .inl ⟨f, _, -1, .ref pa, rfl, rfl, SqL.of ef15, at_last pre (.ref pa), ?_⟩⟩
      refine ⟨le9 (by simp), fun a0 na0 => ?_⟩
      have s16 : Same H15 (upd H15 a0 (.tup [.int 0])) := Same.new na0
      have e16 : upd H15 a0 (.tup [.int 0]) a0 = some (.tup [.int 0]) := upd_same
      generalize upd H15 a0 (.tup [.int 0]) = H16 at s16 e16 ⊢
      refine catA_one (K := K) ((Ten.of_same s16).tup hqa) (SqT.of e16) (le9 (by rw [List.length_map]; omega)) fun b0 H17 s17 hq17 => ?_
      refine ⟨le9 (by simp), fun b1 nb1 => ?_⟩
      have s18 : Same H17 (upd H17 b1 (.tup [.int 9])) := Same.new nb1
      have e18 : upd H17 b1 (.tup [.int 9]) b1 = some (.tup [.int 9]) := upd_same
      generalize upd H17 b1 (.tup [.int 9]) = H18 at s18 e18 ⊢
      refine ⟨_, rfl, le9 (by simp), fun b2 nb2 => ?_⟩
      have s19 : Same H18 (upd H18 b2 (.tup [.int (-1)])) := Same.new nb2
      have e19 : upd H18 b2 (.tup [.int (-1)]) b2 = some (.tup [.int (-1)]) := upd_same
      generalize upd H18 b2 (.tup [.int (-1)]) = H19 at s19 e19 ⊢
      refine ⟨le9 (by simp), fun b3 nb3 => ?_⟩
      have s20 : Same H19 (upd H19 b3 (.tup [.non])) := Same.new nb3
      have e20 : upd H19 b3 (.tup [.non]) b3 = some (.tup [.non]) := upd_same
      generalize upd H19 b3 (.tup [.non]) = H20 at s20 e20 ⊢
      refine ⟨le9 (by simp), fun b4 nb4 => ?_⟩
      have s21 : Same H20 (upd H20 b4 (.tup [.str "a"])) := Same.new nb4
      have e21 : upd H20 b4 (.tup [.str "a"]) b4 = some (.tup [.str "a"]) := upd_same
      generalize upd H20 b4 (.tup [.str "a"]) = H21 at s21 e21 ⊢
      refine ⟨le9 (by simp), fun l2 nl2 => ?_⟩
      have s22 : Same H21 (upd H21 l2 (.lst [.non, .int 5, .ref b0, .ref b1, .ref b2, .ref b3, .ref b4, .str "ab"])) := Same.new nl2
      have e22 : upd H21 l2 (.lst [.non, .int 5, .ref b0, .ref b1, .ref b2, .ref b3, .ref b4, .str "ab"]) l2 = some (.lst [.non, .int 5, .ref b0, .ref b1, .ref b2, .ref b3, .ref b4, .str "ab"]) := upd_same
      generalize upd H21 l2 (.lst [.non, .int 5, .ref b0, .ref b1, .ref b2, .ref b3, .ref b4, .str "ab"]) = H22 at s22 e22 ⊢
      have u21 := s22
      have u20 := s21.trans u21
      have u19 := s20.trans u20
      have u18 := s19.trans u19
      have u17 := s18.trans u18
      have hint : ∀ n ∈ e.1 ++ [0], 0 ≤ n ∧ n < 1000000 := fun n hn => by
        rcases List.mem_append.mp hn with hn | hn
        · exact partAt_ints hv15.2 hpart n hn
        · rcases List.mem_singleton.mp hn with rfl
          exact ⟨by decide, by decide⟩
      have hlen : (e.1 ++ [0]).length ≤ 40 := by
        rw [List.length_append, List.length_singleton]
        omega
      have each : ∀ z ∈ [V.non, .int 5, .ref b0, .ref b1, .ref b2, .ref b3, .ref b4, .str "ab"], Odd K t H22 z := by
        simp only [List.forall_mem_cons, List.not_mem_nil, false_imp_iff, implies_true, and_true]
        refine ⟨⟨.none, .non, rfl, rfl, by decide +kernel, by decide +kernel, by decide +kernel⟩, ⟨.int 5, .int 5, rfl, rfl, by decide +kernel, by decide +kernel, by decide +kernel⟩,
          ⟨placeD (e.1 ++ [0]), dp_place ((Ten.of_same u17).tup (by rw [List.map_append]; exact hq17)), place_plain (Nat.le_trans hlen (by decide)), odd_last hpart hnop, place_shows hint hlen⟩,
          ⟨.tuple [.int 9], .tup (SqT.of (u18 _ _ e18)) (.cons (.int _) .nil), by decide +kernel, odd_nine hv15.2, by decide +kernel, by decide +kernel, by decide +kernel⟩,
          ⟨.tuple [.int (-1)], .tup (SqT.of (u19 _ _ e19)) (.cons (.int _) .nil), by decide +kernel, odd_neg, by decide +kernel, by decide +kernel, by decide +kernel⟩,
          ⟨.tuple [.none], .tup (SqT.of (u20 _ _ e20)) (.cons .non .nil), by decide +kernel, odd_tnone, by decide +kernel, by decide +kernel, by decide +kernel⟩,
          ⟨.tuple [.str "a"], .tup (SqT.of (u21 _ _ e21)) (.cons (.str _) .nil), by decide +kernel, odd_tstr, by decide +kernel, by decide +kernel, by decide +kernel⟩,
          ⟨.str "ab", .str _, by decide +kernel, odd_str, by decide +kernel, by decide +kernel, by decide +kernel⟩⟩
      have sA := (s16.trans s17).trans u17
      have hp22 := hp15.same sA
      refine ⟨p, c, l2, _, rfl, hp22.lst e22, hp22, .inl (SqL.of e22), by simp, by simp, fun j odd H23 hx hp23 b23 => ?_⟩
      have t23 := Ten.penC hp22 b23
      have tA := (Ten.of_same sA).trans t23
      have hodd := (each odd (List.mem_of_getElem? hx)).ten t23
      have hbad23 := hbad.ten tA
      have ht23 := Tc.Tabs.penC (ht15.ext sA) hp22 b23
      have hv23 := TmAt.ten tA hv15
      clear each hint hlen u17 u18 u19 u20 u21 s16 e16 s17 hq17 s18 e18 s19 e19 s20 e20 s21 e21 s22 e22 nl2 nb4 nb3 nb2 nb1 na0 hqa dr ef15 hfs15 hx b23 hbad hv15 ht15 hp15 hp22 t23 tA sA
      -- the rows
      refine ⟨ht23, fun f0 H24 x24 ht24 nf24 m24 => ⟨_, rfl, le9 (by simp), fun dt0 nd0 => ⟨le9 (by simp), fun tp0 nt0 => ⟨le9 (by simp), fun l nl => ?_⟩⟩⟩⟩
      have hp24 := hp23.ext x24
      have D0 := Desk.first (K := K) (r := ⟨K48.l0, "term", bad⟩) hp24 ht24 m24 nd0 nt0 nl
      have tB := (ExtN.ten x24).trans (Ten.of_same (((Same.new nd0).trans (Same.new nt0)).trans (Same.new (o := .lst [.ref tp0]) nl)))
      have hbad0 := hbad23.ten tB
      have hodd0 := hodd.ten tB
      have hv0 := TmAt.ten tB hv23
      clear nd0 nt0 nl tB m24 nf24 x24 hp24 ht24 hbad23 hodd hv23 ht23 hp23
      refine ⟨_, rfl, .inl ⟨rfl, _, SqL.of D0.lst⟩, D0.tabs, fun f1 H31 x31 ht31 nf31 m31 => ⟨_, rfl, le9 (by simp), fun dt1 nd1 => ⟨le9 (by simp), fun tp1 nt1 => ?_⟩⟩⟩
      obtain ⟨e1, D1, k1⟩ := D0.more (r := ⟨K48.l1, "term", bad⟩) x31 ht31 m31 nd1 nt1
      refine ⟨l, _, .ref tp1, rfl, rfl, e1, small1000 (by simp), ?_⟩
      have kt1 := k1.ten D0.lst
      have hbad1 := hbad0.ten kt1
      have hodd1 := hodd0.ten kt1
      have hv1 := TmAt.ten kt1 hv0
      clear e1 k1 kt1 D0 hbad0 hodd0 hv0 x31 ht31 nf31 m31 nd1 nt1
      refine ⟨_, rfl, .inl ⟨rfl, _, SqL.of D1.lst⟩, D1.tabs, fun f2 H32 x32 ht32 nf32 m32 => ⟨_, rfl, le9 (by simp), fun dt2 nd2 => ⟨le9 (by simp), fun tp2 nt2 => ?_⟩⟩⟩
      obtain ⟨e2, D2, k2⟩ := D1.more (r := ⟨K48.l2, "place", odd⟩) x32 ht32 m32 nd2 nt2
      refine ⟨l, _, .ref tp2, rfl, rfl, e2, small1000 (by simp), ?_⟩
      have kt2 := k2.ten D1.lst
      have hbad2 := hbad1.ten kt2
      have hodd2 := hodd1.ten kt2
      have hv2 := TmAt.ten kt2 hv1
      clear e2 k2 kt2 D1 hbad1 hodd1 hv1 x32 ht32 nf32 m32 nd2 nt2
      refine ⟨_, rfl, .inl ⟨rfl, _, SqL.of D2.lst⟩, D2.tabs, fun f3 H33 x33 ht33 nf33 m33 => ⟨_, rfl, le9 (by simp), fun dt3 nd3 => ⟨le9 (by simp), fun tp3 nt3 => ?_⟩⟩⟩
      obtain ⟨e3, D3, k3⟩ := D2.more (r := ⟨K48.l3, "term", bad⟩) x33 ht33 m33 nd3 nt3
      refine ⟨l, _, .ref tp3, rfl, rfl, e3, small1000 (by simp), ?_⟩
      have kt3 := k3.ten D2.lst
      have hbad3 := hbad2.ten kt3
      have hodd3 := hodd2.ten kt3
      have hv3 := TmAt.ten kt3 hv2
      clear e3 k3 kt3 D2 hbad2 hodd2 hv2 x33 ht33 nf33 m33 nd3 nt3
      refine ⟨_, rfl, .inl ⟨rfl, _, SqL.of D3.lst⟩, D3.tabs, fun f4 H34 x34 ht34 nf34 m34 => ⟨_, rfl, le9 (by simp), fun dt4 nd4 => ⟨le9 (by simp), fun tp4 nt4 => ?_⟩⟩⟩
      obtain ⟨e4, D4, k4⟩ := D3.more (r := ⟨K48.l4, "place", odd⟩) x34 ht34 m34 nd4 nt4
      refine ⟨l, _, .ref tp4, rfl, rfl, e4, small1000 (by simp), ?_⟩
      have kt4 := k4.ten D3.lst
      have hbad4 := hbad3.ten kt4
      have hodd4 := hodd3.ten kt4
      have hv4 := TmAt.ten kt4 hv3
      clear e4 k4 kt4 D3 hbad3 hodd3 hv3 x34 ht34 nf34 m34 nd4 nt4
      refine ⟨_, rfl, .inl ⟨rfl, _, SqL.of D4.lst⟩, D4.tabs, fun f5 H35 x35 ht35 nf35 m35 => ⟨_, rfl, le9 (by simp), fun dt5 nd5 => ⟨le9 (by simp), fun tp5 nt5 => ?_⟩⟩⟩
      obtain ⟨e5, D5, k5⟩ := D4.more (r := ⟨K48.l5, "other", bad⟩) x35 ht35 m35 nd5 nt5
      refine ⟨l, _, .ref tp5, rfl, rfl, e5, small1000 (by simp), ?_⟩
      have kt5 := k5.ten D4.lst
      have hbad5 := hbad4.ten kt5
      have hodd5 := hodd4.ten kt5
      have hv5 := TmAt.ten kt5 hv4
      clear e5 k5 kt5 D4 hbad4 hodd4 hv4 x35 ht35 nf35 m35 nd5 nt5
      obtain ⟨bd, hb1, hb2, hb3, hb4⟩ := hbad5
      obtain ⟨od, ho1, ho2, ho3, ho4⟩ := hodd5
      refine ⟨_, rfl, l, _, rfl, SqL.of D5.lst, fun x hx => ?_, fun H' s' => ⟨true, rfl, iteF ⟨_, _, _, _, _, _, _, _, _, _, _, rfl, D5.pen.same s', D5.tabs.ext s'⟩⟩⟩
      obtain ⟨j, ej⟩ := List.mem_iff_getElem?.mp hx
      obtain ⟨r, er, hrow⟩ := paired_get D5.rows ej
      have hr' := List.mem_of_getElem? er
      simp only [List.mem_append, List.mem_singleton] at hr'
      rcases hr' with ((((rfl | rfl) | rfl) | rfl) | rfl) | rfl
      · exact rowOk_of (t := t0 K) (by decide +kernel) hrow (by simp [lams]) hb1 hb4 fun H1 s1 E' Q' R => ⟨_, rfl, bad, rfl, .inr ⟨bd, ten_dp (Ten.of_same s1) _ hb2 hb1, hb2, hb3, R⟩⟩
      · exact rowOk_of (t := t1 K) (by decide +kernel) hrow (by simp [lams]) hb1 hb4 fun H1 s1 E' Q' R => ⟨_, rfl, _, rfl, bad, odd, rfl, .inl ⟨bd, ten_dp (Ten.of_same s1) _ hb2 hb1, hb2, hb3, R⟩⟩
      · exact rowOk_of (t := t2 K) (by decide +kernel) hrow (by simp [lams]) ho1 ho4 fun H1 s1 E' Q' R => ⟨_, rfl, _, rfl, v, odd, rfl, .inr ⟨t, od, TmAt.ten (Ten.of_same s1) hv5, by omega, by omega, .inl ⟨ten_dp (Ten.of_same s1) _ ho2 ho1, ho2⟩, fun _ => R, fun u hu => absurd (ho3.symm.trans hu) (by simp)⟩⟩
      · exact rowOk_of (t := t3 K) (by decide +kernel) hrow (by simp [lams]) hb1 hb4 fun H1 s1 E' Q' R => ⟨_, rfl, _, rfl, _, rfl, bad, odd, bad, rfl, .inl ⟨bd, ten_dp (Ten.of_same s1) _ hb2 hb1, hb2, hb3, R⟩⟩
      · exact rowOk_of (t := t4 K) (by decide +kernel) hrow (by simp [lams]) ho1 ho4 fun H1 s1 E' Q' R => ⟨_, rfl, _, rfl, _, rfl, v, odd, bad, rfl, .inr ⟨t, od, TmAt.ten (Ten.of_same s1) hv5, by omega, by omega, .inl ⟨ten_dp (Ten.of_same s1) _ ho2 ho1, ho2⟩, .inl ⟨ho3, R⟩⟩⟩
      · exact rowOk_of (t := t5 K) (by decide +kernel) hrow (by simp [lams]) hb1 hb4 fun H1 s1 E' Q' R => ⟨_, rfl, Nat.zero_le _, fun q nq => ⟨_, rfl, v, .ref q, bad, rfl, .inr ⟨t, placeD [], TmAt.ten (Ten.of_same (s1.trans (Same.new nq))) hv5, by omega, by omega, .inl ⟨dp_place (SqT.of upd_same), by decide +kernel⟩, .inr ⟨[], t, rfl, rfl, .inl ⟨bd, ten_dp (Ten.of_same (s1.trans (Same.new nq))) _ hb2 hb1, hb2, hb3, R.same (Same.new nq)⟩⟩⟩⟩⟩
end
end K48
namespace K48
open PySem PySem.Spec PyProof.Rows L2 Tc
theorem last {w : World} {K : PySem.W.Frag} {h : Heap} {mg : Str → Option Value} {f : Addr} {l : PySem.W.OpenLaw} (X : K.In h) (G : h.Ns mainGlobals mg) (hfa : mg ("law" : Str) = some (.ref f)) (c : SaysZ fa fn tf ex h K) : LawG l w K CX0 34 63 "script" mg f h := by
  have T : TX K mg := tx_of X G c.d c.more
  obtain ⟨fd, F⟩ := F_law T
  have e := hfa.symm.trans (g_law T)
  cases e
  have hmem : He.cT K lawAt ∈ tf.map (He.cT K) := List.mem_map.mpr ⟨lawAt, List.mem_singleton.mpr rfl, rfl⟩
  refine ⟨fd, tf.map (He.cT K), spLaw K, fun p hp => ?_, fun p hp => ?_, fun p hp => ?_, ?_, ?_, fun base _ _ tb => c_law T (tb _ hmem) F⟩
  · obtain ⟨q, hq, rfl⟩ := List.mem_map.mp hp
    exact c.empty q hq
  · obtain ⟨q, hq, rfl⟩ := List.mem_map.mp hp
    exact c.out q hq
  · obtain ⟨q, hq, rfl⟩ := List.mem_map.mp hp
    exact PySem.W.codeHd_of_K X (c.hd q hq)
  · intro s u
    obtain ⟨oc, od, kV, doc, pm, an, cdv, ct, osl, rfl, lk, hcd⟩ := F.ex
    exact .of_eq rfl
  · intro H a ns E
    exact ⟨a, ns, rfl, E.at_, E.few, fun z hz => by
      rw [List.mem_singleton.mp hz]
      exact LamX.TabS.nil (E.tabs _ hmem), fun _ => rfl⟩
end K48
open PySem PySem.W PySem.Calls PyProof.Rows
theorem PySem.Challenge.cw_treeclaims_k48_whole_parts_of_terms_holds : PySem.Challenge.rw_treeclaims_k48_whole_parts_of_terms.Holds := by
  w_on; o_law
  refine HandSHeadRun.head_any (r := OpenLaw.row PySem.Challenge.rw_treeclaims_k48_whole_parts_of_terms) (q := view (OpenLaw.row PySem.Challenge.rw_treeclaims_k48_whole_parts_of_terms).prog [51]) (H := K48.hk) (ob := K48.ob) (M := 30000) (loose := K48.loose)
    (d := HandSHeadRun.topDef (OpenLaw.row PySem.Challenge.rw_treeclaims_k48_whole_parts_of_terms).prog 51) (kwd := []) K48.ob_eq
    (by kernel_rfl) (fun s => by kernel_rfl) K48.run (by kernel_rfl) (by kernel_rfl) (by kernel_rfl) (by rfl) (by first | assumption | decide +kernel) (by decide +kernel) ⟨rfl, rfl, rfl, rfl, rfl, by decide +kernel⟩ ?hw ?hc
  case hw => w_witness2
  case hc =>
    refine Tc.walk_ofG (l := PySem.Challenge.rw_treeclaims_k48_whole_parts_of_terms) (n := 63) (k := 34) (x := "script") (CX := fun _ => L2.CX0) rfl (by decide) (by kernel_rfl) ⟨rfl, by decide, by decide⟩ ?F (fun _ _ _ _ _ z => z)
    intro w mg fa h Y G hmg0
    obtain ⟨K, KX, c⟩ := Y
    have hmg : mg ("law" : PySem.Str) = some (.ref fa) := by
      have e : (HandSHeadRun.topDef (OpenLaw.row PySem.Challenge.rw_treeclaims_k48_whole_parts_of_terms).prog 51).name = ("law" : PySem.Str) := by kernel_rfl
      rw [← e]
      exact hmg0
    exact ⟨K, KX, K48.last KX G hmg c⟩
