import PyProof.Rows.All
import Wide.All
import OpenK.AllK
import Wide.FinOn
import HandS.ForMost
import HandS.ForExc
import HandS.Wide
import HandS.WideBits
import HandS.RaiseMore
import HandS.IsInst
import HandS.ExcField
import HandS.TryMany
import HandS.Property
import HandS.Star
import HandS.Deep
import HandS.NoneIn
import HandS.SetKeys
import HandS.FStr
import HandS.OwnEq
import HandS.Flow
import HandS.TupAny
import HandS.ExcSuper
import HandS.ExcInit
import HandS.Defaults
import HandS.ClsMeth
import KE.KExcSuper
import PyProof.ReprRoads
import HandS.EndBits
import HandS.Walk
import PyProof.StrLawsRepr
import PyProof.ReprLen
import PyProof.StrOps2
import HandS.ExcIs
import KE.KCallOwn
import HandS.MakeKwOnly
import HandS.Lambda
import HandS.EndOwn
import KE.KFmtOwn
import HandS.SetTxt0
import HandS.SetBool
import HandS.Strs
import HandS.SetFor
import KE.KOpsOwn
import KE.OsRunLaw
import PySem.Challenge.RW_tiedsteps_k42_who_may_wake_whom
set_option Elab.async false
set_option linter.all false
set_option maxRecDepth 100000
set_option maxHeartbeats 4000000
namespace Z
open PySem PySem.Spec PyProof.Rows L2
theorem sNew {H : Hp} {p : Addr} {o : HO} (h : H p = none) : Same H (upd H p o) := fun b u e => by
  rw [upd_ne (ne_of_none e h)]
  exact e
theorem new {H : Hp} {o : HO} {Q : V → Hp → Prop} (h : ∀ p H1, H p = none → Same H H1 → H1 p = some o → Q (.ref p) H1) : ∀ p, H p = none → Q (.ref p) (upd H p o) :=
  fun p hp => h p _ hp (sNew hp) upd_same
def But (l : Addr) (H H' : Hp) : Prop := ∀ b o, b ≠ l → H b = some o → H' b = some o
theorem But.same {H H' : Hp} (e : Same H H') (l : Addr) : But l H H' := fun b o _ h => e b o h
theorem But.upd {H : Hp} {l : Addr} {o : HO} : But l H (L2.upd H l o) := fun b u hb e => by
  rw [upd_ne hb]
  exact e
theorem But.trans {l : Addr} {H H1 H2 : Hp} (a : But l H H1) (b : But l H1 H2) : But l H H2 := fun c o hc h => b c o hc (a c o hc h)
theorem But.refl (l : Addr) (H : Hp) : But l H H := fun _ _ _ h => h
theorem But.fresh {l : Addr} {H H1 H2 : Hp} (n : H l = none) (a : Same H H1) (b : But l H1 H2) : Same H H2 := fun c o h => b c o (ne_of_none h n) (a c o h)
theorem SqL.same {K : PySem.W.Frag} {H H' : Hp} {a : Addr} {xs : List V} (e : Same H H') (h : SqL K H a xs) : SqL K H' a xs := e.seq h
theorem SqT.same {K : PySem.W.Frag} {H H' : Hp} {a : Addr} {xs : List V} (e : Same H H') (h : SqT K H a xs) : SqT K H' a xs := by
  rcases h with (h | ⟨o, h⟩) | h
  · exact .inl (.inl (e _ _ h))
  · exact .inl (.inr ⟨o, e _ _ h⟩)
  · exact .inr h
structure TK (H H' : Hp) : Prop where
  tup : ∀ b xs, H b = some (.tup xs) → H' b = some (.tup xs)
  frz : ∀ b o u, H b = some (.frz o u) → H' b = some (.frz o u)
theorem TK.of {H H' : Hp} (e : Same H H') : TK H H' := ⟨fun _ _ h => e _ _ h, fun _ _ _ h => e _ _ h⟩
theorem TK.trans {H H1 H2 : Hp} (a : TK H H1) (b : TK H1 H2) : TK H H2 := ⟨fun c xs h => b.tup c xs (a.tup c xs h), fun c o u h => b.frz c o u (a.frz c o u h)⟩
theorem TK.lst {H : Hp} {l : Addr} {xs : List V} {o : HO} (h : H l = some (.lst xs)) : TK H (upd H l o) :=
  ⟨fun b ys e => by rw [upd_ne (ne_of e h (by intro z; cases z))]; exact e, fun b o u e => by rw [upd_ne (ne_of e h (by intro z; cases z))]; exact e⟩
theorem SqT.tk {K : PySem.W.Frag} {H H' : Hp} {a : Addr} {xs : List V} (e : TK H H') (h : SqT K H a xs) : SqT K H' a xs := by
  rcases h with (h | ⟨o, h⟩) | h
  · exact .inl (.inl (e.tup _ _ h))
  · exact .inl (.inr ⟨o, e.frz _ _ _ h⟩)
  · exact .inr h
mutual
theorem dp_same {K : PySem.W.Frag} {H H' : Hp} (e : Same H H') : ∀ {v : V} {d : PyData}, Dp K H v d → Dp K H' v d
  | _, _, .non => .non
  | _, _, .bl b => .bl b
  | _, _, .int i => .int i
  | _, _, .str x => .str x
  | _, _, .lst h a => .lst (SqL.same e h) (dpAll_same e a)
  | _, _, .tup h a => .tup (SqT.same e h) (dpAll_same e a)
theorem dpAll_same {K : PySem.W.Frag} {H H' : Hp} (e : Same H H') : ∀ {vs : List V} {ds : List PyData}, DpAll K H vs ds → DpAll K H' vs ds
  | _, _, .nil => .nil
  | _, _, .cons h a => .cons (dp_same e h) (dpAll_same e a)
end
theorem DpAll.length {K : PySem.W.Frag} {H : Hp} : ∀ {vs : List V} {ds : List PyData}, DpAll K H vs ds → vs.length = ds.length
  | _, _, .nil => rfl
  | _, _, .cons _ a => congrArg (· + 1) (DpAll.length a)
theorem DpAll.app {K : PySem.W.Frag} {H : Hp} : ∀ {vs : List V} {ds : List PyData} {ws : List V} {es : List PyData}, DpAll K H vs ds → DpAll K H ws es → DpAll K H (vs ++ ws) (ds ++ es)
  | _, _, _, _, .nil, b => b
  | _, _, _, _, .cons h a, b => .cons h (DpAll.app a b)
theorem DpAll.get {K : PySem.W.Frag} {H : Hp} : ∀ {vs : List V} {ds : List PyData} {i : Nat} {v : V}, DpAll K H vs ds → vs[i]? = some v → ∃ d, ds[i]? = some d ∧ Dp K H v d
  | _, _, _, _, .nil, e => by simp at e
  | _, _, 0, _, .cons h a, e => by
    simp at e
    subst e
    exact ⟨_, rfl, h⟩
  | _, _, i + 1, v, .cons h a, e => by
    obtain ⟨d, h1, h2⟩ := DpAll.get (i := i) (v := v) a (by simpa using e)
    exact ⟨d, by simpa using h1, h2⟩
theorem dpAll_map {K : PySem.W.Frag} {H : Hp} {α : Type} (f : α → V) (g : α → PyData) (h : ∀ a, Dp K H (f a) (g a)) : ∀ l : List α, DpAll K H (l.map f) (l.map g)
  | [] => .nil
  | a :: r => .cons (h a) (dpAll_map f g h r)
section
variable {X : Cx}
theorem OpR.box {f : Value → Value → Sem Value} {r r' : R2} (h : OpR X f r) (e : ∀ x y H Q, r' x y H Q → r x y H Q) : OpR X f r' := fun pins s σ H x y v u Q I rx ry q => h pins s σ H x y v u Q I rx ry (e _ _ _ _ q)
structure rAddA (K : PySem.W.Frag) (x y : V) (H : Hp) (Q : VK) : Prop where
  h : rI0 (fun i j => .int (i + j)) x y H Q ∨ (∃ i j, x = .str i ∧ y = .str j ∧ i.length + j.length ≤ sizeLine ∧ Q (.str (i ++ j)) H) ∨ rCat x y H Q ∨ rCatA K x y H Q
theorem op_addA {K : PySem.W.Frag} (k : X.K = K := by rfl) : OpR X (binaryOp .Add) (rAddA K) := by
  subst k
  exact OpR.box (OpR.or op_add (OpR.or op_add_str (OpR.or op_cat op_catA))) fun _ _ _ _ q => q.h
theorem addI {K : PySem.W.Frag} {i j : Int} {H : Hp} {Q : VK} (q : Q (.int (i + j)) H) : rAddA K (.int i) (.int j) H Q := ⟨.inl ⟨i, j, rfl, rfl, q⟩⟩
theorem addS {K : PySem.W.Frag} {i j : Str} {H : Hp} {Q : VK} (h : i.length + j.length ≤ sizeLine) (q : Q (.str (i ++ j)) H) : rAddA K (.str i) (.str j) H Q := ⟨.inr (.inl ⟨i, j, rfl, rfl, h, q⟩)⟩
theorem addL {K : PySem.W.Frag} {a b : Addr} {xs ys : List V} {H : Hp} {Q : VK} (ha : H a = some (.lst xs)) (hb : H b = some (.lst ys)) (h : xs.length + ys.length ≤ sizeLine)
    (q : ∀ p H1, H p = none → Same H H1 → H1 p = some (.lst (xs ++ ys)) → Q (.ref p) H1) : rAddA K (.ref a) (.ref b) H Q := ⟨.inr (.inr (.inl ⟨a, b, xs, ys, rfl, rfl, ha, hb, h, new q⟩))⟩
structure rMulA (x y : V) (H : Hp) (Q : VK) : Prop where
  h : rI CMulX (fun i j => .int (i * j)) x y H Q ∨ rRep x y H Q
theorem op_mulA : OpR X (binaryOp .Mult) rMulA := OpR.box (OpR.or op_mulX op_rep) fun _ _ _ _ q => q.h
theorem mulI {i j : Int} {H : Hp} {Q : VK} (h : CMulX i j) (q : Q (.int (i * j)) H) : rMulA (.int i) (.int j) H Q := ⟨.inl ⟨i, j, rfl, rfl, h, q⟩⟩
structure rInA (K : PySem.W.Frag) (neg : Bool) (x y : V) (H : Hp) (Q : VK) : Prop where
  h : rIn K neg x y H Q ∨ (∃ (c : Nat) (z : Str), x = .str ⟨#[c]⟩ ∧ y = .str z ∧ Q (.bl (if neg then !decide (c ∈ z.cps.toList) else decide (c ∈ z.cps.toList))) H)
theorem op_inA {K : PySem.W.Frag} (k : X.K = K := by rfl) : OpR X (compareOp .In) (rInA K false) := by
  subst k
  exact OpR.box (OpR.or op_in_seq (by
    intro pins s σ H x y v u Q I rx ry ⟨c, z, e1, e2, q⟩
    exact op_in_sign pins s σ H x y v u Q I rx ry ⟨c, z, e1, e2, q⟩)) fun _ _ _ _ q => q.h
theorem op_notInA {K : PySem.W.Frag} (k : X.K = K := by rfl) : OpR X (compareOp .NotIn) (rInA K true) := by
  subst k
  exact OpR.box (OpR.or op_notIn_seq (by
    intro pins s σ H x y v u Q I rx ry ⟨c, z, e1, e2, q⟩
    exact op_notIn_sign pins s σ H x y v u Q I rx ry ⟨c, z, e1, e2, q⟩)) fun _ _ _ _ q => q.h
theorem inSgn {K : PySem.W.Frag} {c : Nat} {z : Str} {H : Hp} {Q : VK} (q : Q (.bl (decide (c ∈ z.cps.toList))) H) : rInA K false (.str ⟨#[c]⟩) (.str z) H Q := ⟨.inr ⟨c, z, rfl, rfl, q⟩⟩
theorem ninSgn {K : PySem.W.Frag} {c : Nat} {z : Str} {H : Hp} {Q : VK} (q : Q (.bl (!decide (c ∈ z.cps.toList))) H) : rInA K true (.str ⟨#[c]⟩) (.str z) H Q := ⟨.inr ⟨c, z, rfl, rfl, q⟩⟩
end
end Z
set_option maxRecDepth 100000
set_option maxHeartbeats 4000000
namespace Z
open PySem PySem.Spec PyProof.Rows L2
structure FnG (P : Program) (w : World) (K : PySem.W.Frag) (mg : Str → Option Value) (base : Heap) (CX : CXT) (k : Nat) (f : Addr) (fd : FuncData) (ps : List Str) (sp : Sp) : Prop where
  len : ∀ vs H Q E, sp vs H Q E → vs.length = ps.length
  run : ∀ (A : Around) (outer : List Env) (s : Shared) (H : Hp) (args : Args) (us : List Value) (vs : List V) (Q : VK) (E : XK), Room k A → A.guards = some [] →
    Env0 P w K mg base A outer s H → BindsTo s fd args (ps.zip us) → Vals vs us → sp vs H Q E → codeAny (model P w) A (.call (.ref f) args) (CR CX outer P w H s Q E) s
section
variable {P : Program} {w : World} {K : PySem.W.Frag} {mg : Str → Option Value} {base : Heap} {CX : CXT}
theorem toG {k : Nat} {f : Addr} {fd : FuncData} {ps : List Str} {sp : Sp} (F : FnOk P w K mg base CX k f fd ps sp) : FnG P w K mg base CX k f fd ps sp :=
  ⟨F.len, fun A outer s H args us vs Q E hr _ => F.run A outer s H args us vs Q E hr⟩
theorem FnG.mono {j k : Nat} {f : Addr} {fd : FuncData} {ps : List Str} {sp : Sp} (F : FnG P w K mg base CX j f fd ps sp) (h : j ≤ k) : FnG P w K mg base CX k f fd ps sp :=
  ⟨F.len, fun A outer s H args us vs Q E hr => F.run A outer s H args us vs Q E (hr.mono h)⟩
theorem okG {x qual : Str} {st : Stmt} {f : Addr} {fd : FuncData} {N ps : List Str} {k : Nat} {sp : Sp} (F : Fun K x qual st f fd) (S : FnScope N ps (defScope st)) (len : ∀ vs H Q E, sp vs H Q E → vs.length = ps.length)
    (hbody : ∀ (cdv : Value) (A : Around) (outer : List Env) (s : Shared) (H : Hp) (vs : List V) (Q : VK) (E : XK), Room k (A.deeper (envOfC qual (defScope st) s.heap.objs.size f cdv)) → A.guards = some [] → sp vs H Q E →
      ∃ t, PSs (cxOf CX P w K mg base N qual (defScope st) f cdv A outer s H E) (defBody st) t ∧ t { nx := fun _ H' => Q .non H', rt := Q } (start N vs) H) : FnG P w K mg base CX (k + 1) f fd ps sp := by
  obtain ⟨oc, od, kV, doc, pm, an, cdv, ct, osl, rfl, lk, code⟩ := F.ex
  refine ⟨len, fun A outer s H args us vs Q E room gu e0 bd rv wish => ?_⟩
  have hin : K.In s.heap := e0.mod.kin.keeps fun b o e => (e0.bs b o e).1
  have big : s.heap.NoLimit := e0.mod.nolimit.keeps fun b o e => (e0.bs b o e).1
  have count := len vs H Q E wish
  refine codeAny_call_function room.depth (hin _ _ lk) rfl S.co S.gen rfl (PySem.W.codeRec_of hin code) (bd _ _ _ _ ?_)
  refine wpAny_newFunctionEnv_cells S.kind (fun y hy => ?_) fun env he s1 y => ?_
  · exact (S.par y.1 (List.of_mem_zip hy).1).imp id fun q => ⟨q, PySem.W.cellsFrom_some _ _ _ (.inl q)⟩
  · subst he
    refine ⟨big.keeps y.toInCall.keep, codeAny_func ?_⟩
    obtain ⟨t, der, rd⟩ := hbody cdv A outer s H vs Q E (room.deeper _) gu wish
    refine wpAny_mono (der.run [] s1 (start N vs) H _ (inv_start S room.hd e0 count rv y) rd) (fun fl s' out => ?_) fun _ _ out => out
    match fl, out with
    | .ret u, ⟨v, _, H', J, r, q⟩ => exact ⟨v, H', J.os, J.bare, J.base, J.hok, r, q⟩
    | .next, ⟨_, H', J, q⟩ => exact ⟨.non, H', J.os, J.bare, J.base, J.hok, rfl, q⟩
    | .brk, ⟨_, _, _, q⟩ => exact q.elim
    | .cont, ⟨_, _, _, q⟩ => exact q.elim
end
section
variable {X : Cx} {CX : CXT} {k : Nat} {f : Addr} {fd : FuncData} {ps : List Str} {sp : Sp} {E : L2.St → XK} {x : Str} {p pos : Pos} {e : Expr} {es : List Expr} {t : TA}
theorem run_G {pins : List (Addr × Obj)} {σ : L2.St} {H : Hp} {s : Shared} {Q : VK} {us : List Value} {vs : List V} (F : FnG X.prog X.w X.K X.mg X.base CX k f fd ps sp) (hr : Room k X.A) (gu : X.A.guards = some []) (hb : Binds X.K fd ps [])
    (hx : PassesAt CX X σ (E σ)) (I : Inv X pins σ H s) (r : Vals vs us) (h : sp vs H Q (E σ)) : wpAny (model X.prog X.w) X.A (call (.ref f) us) (EP X pins σ Q) X.xe s := by
  have hl : us.length = ps.length := by
    rw [← r.length]
    exact F.len _ _ _ _ h
  have bd := hb s us I.kIn (by rw [List.append_nil]; exact hl)
  rw [List.append_nil] at bd
  refine wpAny_call (codeAny_mono (F.run X.A X.stack s H ⟨us, []⟩ us vs Q (E σ) hr gu I.env0 bd r h) fun res s' out => ?_)
  match res, out with
  | .error er, out => exact hx pins H s er s' I out
  | .ok (.ret u), out => exact I.after out
  | .ok .next, out => exact out.elim
  | .ok .brk, out => exact out.elim
  | .ok .cont, out => exact out.elim
theorem pe_callG (F : FnG X.prog X.w X.K X.mg X.base CX k f fd ps sp) (hr : Room k X.A) (gu : X.A.guards = some []) (hg : Gl X x) (hm : X.mg x = some (.ref f)) (hk : PySem.W.keepIn X.K (.ref f) = true) (hb : Binds X.K fd ps [])
    (hx : ∀ σ, PassesAt CX X σ (E σ)) (ha : PA X (e :: es) t) (hdb : (x == ("__debug__" : Str)) = false := by decide)
    (he : starEach (e :: es) X.env = (false, eval e X.env) :: starEach es X.env := by rfl) (hpl : (backTo pos (starEach es X.env)).any (·.1) = false := by rfl) :
    PE X (.Call (.Name x p) (e :: es) [] pos) (tCallS sp E t) :=
  ⟨fun pins s σ _ _ I h => wpAny_Call_Name_kw (ld_glob I hg hm (PySem.W.callWith_K (h₀ := X.base) I.ok.mod.kin hk
    (thn (ha.run pos pins s σ _ _ I h) fun _ _ ⟨_, _, J, r, q⟩ => ⟨J.kIn, run_G F hr gu hb (hx σ) J r q⟩) he hpl) hdb)⟩
end
theorem passAt0 {X : Cx} (σ : L2.St) : PassesAt CX0 X σ (fun _ _ _ => False) := fun _ _ _ _ _ _ h => h.elim
theorem passAtL {X : Cx} (σ : L2.St) : PassesAt (L2.CX X.prog X.w) X σ (fun _ _ _ => False) := fun pins H s e s' I h => passL pins σ H s e s' I h
section
variable {P : Program} {w : World} {K : PySem.W.Frag} {mg mb : Str → Option Value} {CX : CXT}
theorem law_G {k : Nat} {fa a : Addr} {fd : FuncData} {x : Str} {sp : Sp} {s1 : Shared} {vs : List Value} {ns : List Int}
    (hin : K.In s1.heap) (glob : s1.heap.Ns mainGlobals mg) (blt : s1.heap.Ns builtinsNs mb) (bb : ∀ x : Str, x ≠ "__name__" → mb x = bootBuiltins x) (lim : s1.heap.NoLimit) (bare : s1.gens = #[])
    (scr : s1.heap.get? a = some { cls := .type "list", data := .seq vs.toArray }) (its : IntsAre vs ns) (few : ns.length ≤ sizeLine) (room : Room k callerA)
    (F : ∀ base : Heap, K.In base → base.Ns mainGlobals mg → FnG P w K mg base CX k fa fd [x] sp) (bd : ∀ (s : Shared) (u : Value), BindsTo s fd ⟨[u], []⟩ [(x, u)])
    (wish : ∀ H : Hp, Only H → SqL K H a (ns.map V.int) → sp [.ref a] H (fun v _ => v = .bl true) fun _ _ _ => False)
    (none_out : ∀ H e s', CX [] H s1 (fun _ _ _ => False) e s' → False) :
    codeAny (model P w) callerA (.call (.ref fa) ⟨[.ref a], []⟩) (fun r s' => r = .ok (.ret (.bool true)) ∧ OldK s1.heap s'.heap ∧ s'.os = s1.os ∧ AllBare s'.gens) s1 := by
  have rv := vals_ints its
  have go : ∀ H : Hp, Only H → SqL K H a (ns.map V.int) → HOk P w H s1.heap → (∀ b u, H b = some u → b = a ∧ K.lookup a = none) →
      codeAny (model P w) callerA (.call (.ref fa) ⟨[.ref a], []⟩) (fun r s' => r = .ok (.ret (.bool true)) ∧ OldK s1.heap s'.heap ∧ s'.os = s1.os ∧ AllBare s'.gens) s1 := by
    intro H only sq ok at_
    have free : ∀ {b : Addr}, (∀ u, H b = some u → False) → H b = none := fun {b} n => by
      cases q : H b with
      | none => rfl
      | some u => exact (n u q).elim
    have ns_ : ∀ {b : Addr} {m : Str → Option Value}, s1.heap.Ns b m → (hidT s1.heap H).Ns b m := fun {b m} ⟨o, es, ep, e, d, r⟩ => ⟨o, es, ep, hidT_get e (free fun u q => by
      obtain ⟨rfl, _⟩ := at_ b u q
      rw [scr] at e
      cases e
      have d' : Data.seq vs.toArray _ = Data.dict es ep := d
      cases d'), d, r⟩
    have kin : K.In (hidT s1.heap H) := fun b o e => hidT_get (hin b o e) (free fun u q => by
      obtain ⟨rfl, z⟩ := at_ b u q
      rw [z] at e
      cases e)
    have e0 : Env0 P w K mg (hidT s1.heap H) callerA [] s1 H :=
      ⟨rfl, ⟨kin, ns_ glob, ⟨mb, ns_ blt, bb⟩, lim.imp fun _ q => ⟨ns_ q.1, q.2⟩⟩, fun b o e => of_hidT e, Nat.le_of_eq (hidT_size _ _), trivial, fun b hb => (List.not_mem_nil hb).elim, ok, .of_eq bare⟩
    refine codeAny_mono ((F _ kin (ns_ glob)).run callerA [] s1 H ⟨[.ref a], []⟩ [.ref a] [.ref a] _ _ room rfl e0 (bd s1 (.ref a)) (.cons rfl .nil) (wish H only sq)) fun r s' out => ?_
    match r, out with
    | .error e, out => exact (none_out H e s' out).elim
    | .ok .next, out => exact out.elim
    | .ok .brk, out => exact out.elim
    | .ok .cont, out => exact out.elim
    | .ok (.ret u), ⟨v, H', os, gens, un, ok', r', q⟩ =>
      have q' : v = V.bl true := q
      subst q'
      obtain rfl : u = Value.bool true := r'
      refine ⟨rfl, OldK.of_keep fun b o e => ?_, os, gens⟩
      cases hb : H b with
      | none => exact un.keep b o e hb List.not_mem_nil List.not_mem_nil
      | some u =>
        rcases only b with z | ⟨ob, xs, z⟩
        · rw [z] at hb
          cases hb
        · have z2 := (ok' b _ (un.frzs b ob _ z)).1
          rw [(ok b _ z).1] at e
          cases e
          exact z2
  cases hk : K.lookup a with
  | some o =>
    have e := hin a o hk
    rw [scr] at e
    cases e
    exact go (fun _ => none) (fun _ => .inl rfl) (.inr ⟨_, vs.toArray, _, hk, rfl, rfl, rfl, by rw [List.size_toArray, its.length]; exact few, by simpa using rv⟩) (fun b u z => nomatch (show (none : Option HO) = some u from z)) fun b u z => nomatch (show (none : Option HO) = some u from z)
  | none =>
    have at_a : ∀ b u, (if b = a then some (HO.frz { cls := .type "list", data := .seq vs.toArray } (.lst (ns.map V.int))) else none) = some u → b = a ∧ u = HO.frz { cls := .type "list", data := .seq vs.toArray } (.lst (ns.map V.int)) := fun b u z => by
      split at z
      · exact ⟨by assumption, (Option.some.inj z).symm⟩
      · cases z
    refine go (fun b => if b = a then some (.frz { cls := .type "list", data := .seq vs.toArray } (.lst (ns.map V.int))) else none) (fun b => ?_) (.inl (.inr ⟨_, if_pos rfl⟩)) (fun b u z => ?_) fun b u z => ⟨(at_a b u z).1, hk⟩
    · by_cases hb : b = a
      · exact .inr ⟨_, _, if_pos hb⟩
      · exact .inl (if_neg hb)
    · obtain ⟨rfl, rfl⟩ := at_a b u z
      exact ⟨scr, by rw [List.length_map]; exact few, vs, _, rv, scr⟩
end
theorem walkG {l : PySem.W.OpenLaw} {n k : Nat} {q : Program} {loose : List Str} {XP : (Str → Option Value) → Heap → Prop} {YP : World → Heap → Prop} {d : DefRec} {K : Params → PySem.W.Frag} {CX : World → CXT} {sp : World → Sp} {x : Str}
    (hn : l.most = some n) (hn2 : n ≤ sizeLine) (hdf : d.params.defaults = []) (hr : Room k callerA)
    (hY : ∀ (w : World) (h : Heap), YP w h → (K w.params).In h)
    (F : ∀ (w : World) (mg : Str → Option Value) (fa : Addr) (h : Heap), (K w.params).In h → h.Ns mainGlobals mg → mg d.name = some (.ref fa) →
      ∃ fd : FuncData, (∀ (s : Shared) (u : Value), BindsTo s fd ⟨[u], []⟩ [(x, u)]) ∧
        ∀ base : Heap, (K w.params).In base → base.Ns mainGlobals mg → FnG l.prog w (K w.params) mg base (CX w) k fa fd [x] (sp w))
    (hsp : ∀ (w : World) (H : Hp) (a : Addr) (ns : List Int), ns.length ≤ n → (∀ z ∈ ns, Builtin.Int.intBits z ≤ 1048576) → Only H → SqL (K w.params) H a (ns.map V.int) → sp w [.ref a] H (fun v _ => v = .bl true) fun _ _ _ => False)
    (hCX : ∀ (w : World) (H : Hp) (s : Shared) (e : Value) (s' : Shared), CX w [] H s (fun _ _ _ => False) e s' → False) :
    PySem.W.WalkO q loose XP YP l.row.toRowW d [] (fun f vs => PySem.call f vs) := by
  refine Att.attach_callB hn hdf fun w s₀ s₁ mg mb fa o pm cd doc a vs ns G Y ho hd hcd hmg hobj hints hlen hbits hg => ?_
  obtain ⟨fd, hb, hF⟩ := F w mg fa _ (hY w _ Y) G.T.g hmg
  exact law_G (hY w _ Y) G.T.g G.T.b G.T.builtins G.T.nolimit hg hobj hints (Nat.le_trans hlen hn2) hr hF hb (fun H hO hS => hsp w H a ns hlen hbits hO hS) fun H e s' => hCX w H s₁ e s'
end Z
set_option maxRecDepth 100000
set_option maxHeartbeats 4000000
namespace Z
open PySem PySem.Spec PyProof.Rows L2
structure Bi (mg : Str → Option Value) : Prop where
  len : mg "len" = none
  max : mg "max" = none
  min : mg "min" = none
  int : mg "int" = none
  str : mg "str" = none
  tuple : mg "tuple" = none
  list : mg "list" = none
  bool : mg "bool" = none
  dict : mg "dict" = none
  set : mg "set" = none
  isinstance : mg "isinstance" = none
  sorted : mg "sorted" = none
  repr : mg "repr" = none
  range : mg "range" = none
  enumerate : mg "enumerate" = none
  zip : mg "zip" = none
  sum : mg "sum" = none
  all : mg "all" = none
  any : mg "any" = none
section
variable {X : Cx} {e : Expr} {es : List Expr} {t : TA} {p pos : Pos}
theorem CallR.or {f : Value} {r r' : List V → Hp → VK → Prop} (h : CallR X f r) (h' : CallR X f r') : CallR X f (fun xs H Q => r xs H Q ∨ r' xs H Q) := by
  intro pins s σ H xs us Q I rv q
  rcases q with q | q
  · exact h pins s σ H xs us Q I rv q
  · exact h' pins s σ H xs us Q I rv q
theorem CallR.box {f : Value} {r r' : List V → Hp → VK → Prop} (h : CallR X f r) (e : ∀ xs H Q, r' xs H Q → r xs H Q) : CallR X f r' := fun pins s σ H xs us Q I rv q => h pins s σ H xs us Q I rv (e _ _ _ q)
structure rLenA (K : PySem.W.Frag) (xs : List V) (H : Hp) (Q : VK) : Prop where
  h : (∃ p ys, xs = [.ref p] ∧ (SqL K H p ys ∨ SqT K H p ys) ∧ Q (.int ys.length) H) ∨ (∃ z, xs = [.str z] ∧ z.length ≤ sizeLine ∧ Q (.int z.length) H) ∨
  (∃ a kvs, xs = [V.ref a] ∧ H a = some (.dK kvs) ∧ Q (.int kvs.length) H)
theorem lenL {K : PySem.W.Frag} {p : Addr} {ys : List V} {H : Hp} {Q : VK} (h : SqL K H p ys) (q : Q (.int ys.length) H) : rLenA K [.ref p] H Q := ⟨.inl ⟨p, ys, rfl, .inl h, q⟩⟩
theorem lenT {K : PySem.W.Frag} {p : Addr} {ys : List V} {H : Hp} {Q : VK} (h : SqT K H p ys) (q : Q (.int ys.length) H) : rLenA K [.ref p] H Q := ⟨.inl ⟨p, ys, rfl, .inr h, q⟩⟩
theorem lenS {K : PySem.W.Frag} {z : Str} {H : Hp} {Q : VK} (h : z.length ≤ sizeLine) (q : Q (.int z.length) H) : rLenA K [.str z] H Q := ⟨.inr (.inl ⟨z, rfl, h, q⟩)⟩
theorem lenD {K : PySem.W.Frag} {a : Addr} {kvs : List (Key × V)} {H : Hp} {Q : VK} (h : H a = some (.dK kvs)) (q : Q (.int kvs.length) H) : rLenA K [.ref a] H Q := ⟨.inr (.inr ⟨a, kvs, rfl, h, q⟩)⟩
theorem cb_len (B : Bi X.mg) (ha : PA X (e :: es) t) (hg : Gl X "len" := by rfl) (he : starEach (e :: es) X.env = (false, eval e X.env) :: starEach es X.env := by rfl) (hpl : (backTo pos (starEach es X.env)).any (·.1) = false := by rfl) :
    PE X (.Call (.Name "len" p) (e :: es) [] pos) (tCB (rLenA X.K) t) := pe_callB (CallR.box (CallR.or call_len_seq (CallR.or call_len_str call_lenD)) fun _ _ _ q => q.h) hg B.len PySem.boot_len ha (he := he) (hpl := hpl)
structure rIntA (xs : List V) (H : Hp) (Q : VK) : Prop where
  h : ((∃ i, xs = [.int i] ∧ Q (.int i) H) ∨ ∃ k, xs = [.bl k] ∧ Q (.int (if k then 1 else 0)) H) ∨ ∃ a n, xs = [.str a] ∧ PySem.intText? a = some n ∧ a.length ≤ 640 ∧ Q (.int n) H
theorem intI {i : Int} {H : Hp} {Q : VK} (q : Q (.int i) H) : rIntA [.int i] H Q := ⟨.inl (.inl ⟨i, rfl, q⟩)⟩
theorem intB {k : Bool} {H : Hp} {Q : VK} (q : Q (.int (if k then 1 else 0)) H) : rIntA [.bl k] H Q := ⟨.inl (.inr ⟨k, rfl, q⟩)⟩
theorem intS {a : Str} {n : Int} {H : Hp} {Q : VK} (h : PySem.intText? a = some n) (hl : a.length ≤ 640) (q : Q (.int n) H) : rIntA [.str a] H Q := ⟨.inr ⟨a, n, rfl, h, hl, q⟩⟩
theorem cb_int (B : Bi X.mg) (ha : PA X (e :: es) t) (hg : Gl X "int" := by rfl) (he : starEach (e :: es) X.env = (false, eval e X.env) :: starEach es X.env := by rfl) (hpl : (backTo pos (starEach es X.env)).any (·.1) = false := by rfl) :
    PE X (.Call (.Name "int" p) (e :: es) [] pos) (tCB rIntA t) := pe_callTy (CallR.box (CallR.or call_int1 call_int_str) fun _ _ _ q => q.h) hg B.int PyProof.Rows.boot_int ha (he := he) (hpl := hpl)
structure rStrA (xs : List V) (H : Hp) (Q : VK) : Prop where
  h : (∃ i, xs = [.int i] ∧ i.natAbs.log2 < 1920 ∧ Q (.str (toString i)) H) ∨ ∃ a, xs = [.str a] ∧ Q (.str a) H
theorem strI {i : Int} {H : Hp} {Q : VK} (h : i.natAbs.log2 < 1920) (q : Q (.str (toString i)) H) : rStrA [.int i] H Q := ⟨.inl ⟨i, rfl, h, q⟩⟩
theorem strS {a : Str} {H : Hp} {Q : VK} (q : Q (.str a) H) : rStrA [.str a] H Q := ⟨.inr ⟨a, rfl, q⟩⟩
theorem cb_str (B : Bi X.mg) (ha : PA X (e :: es) t) (hg : Gl X "str" := by rfl) (he : starEach (e :: es) X.env = (false, eval e X.env) :: starEach es X.env := by rfl) (hpl : (backTo pos (starEach es X.env)).any (·.1) = false := by rfl) :
    PE X (.Call (.Name "str" p) (e :: es) [] pos) (tCB rStrA t) := pe_callTy (CallR.box (CallR.or call_str_int SkE.call_str_str) fun _ _ _ q => q.h) hg B.str PyProof.Rows.boot_str ha (he := he) (hpl := hpl)
structure rTupA (K : PySem.W.Frag) (xs : List V) (H : Hp) (Q : VK) : Prop where
  h : ∃ p ys, xs = [.ref p] ∧ ((SqL K H p ys ∧ ∀ l, H l = none → Q (.ref l) (upd H l (.tup ys))) ∨ (SqT K H p ys ∧ Q (.ref p) H))
theorem tupL {K : PySem.W.Frag} {p : Addr} {ys : List V} {H : Hp} {Q : VK} (h : SqL K H p ys) (q : ∀ l H1, H l = none → Same H H1 → H1 l = some (.tup ys) → Q (.ref l) H1) : rTupA K [.ref p] H Q := ⟨⟨p, ys, rfl, .inl ⟨h, new q⟩⟩⟩
theorem tupT {K : PySem.W.Frag} {p : Addr} {ys : List V} {H : Hp} {Q : VK} (h : SqT K H p ys) (q : Q (.ref p) H) : rTupA K [.ref p] H Q := ⟨⟨p, ys, rfl, .inr ⟨h, q⟩⟩⟩
theorem cb_tuple (B : Bi X.mg) (ha : PA X (e :: es) t) (hg : Gl X "tuple" := by rfl) (he : starEach (e :: es) X.env = (false, eval e X.env) :: starEach es X.env := by rfl) (hpl : (backTo pos (starEach es X.env)).any (·.1) = false := by rfl) :
    PE X (.Call (.Name "tuple" p) (e :: es) [] pos) (tCB (rTupA X.K) t) := pe_callTy (CallR.box call_tuple_of fun _ _ _ q => q.h) hg B.tuple PyProof.Rows.boot_tuple ha (he := he) (hpl := hpl)
structure rListA (K : PySem.W.Frag) (xs : List V) (H : Hp) (Q : VK) : Prop where
  h : ∃ p ys, xs = [.ref p] ∧ (SqL K H p ys ∨ SqT K H p ys) ∧ ∀ l, H l = none → Q (.ref l) (upd H l (.lst ys))
theorem listL {K : PySem.W.Frag} {p : Addr} {ys : List V} {H : Hp} {Q : VK} (h : SqL K H p ys ∨ SqT K H p ys) (q : ∀ l H1, H l = none → Same H H1 → H1 l = some (.lst ys) → Q (.ref l) H1) : rListA K [.ref p] H Q := ⟨⟨p, ys, rfl, h, new q⟩⟩
theorem cb_list (B : Bi X.mg) (ha : PA X (e :: es) t) (hg : Gl X "list" := by rfl) (he : starEach (e :: es) X.env = (false, eval e X.env) :: starEach es X.env := by rfl) (hpl : (backTo pos (starEach es X.env)).any (·.1) = false := by rfl) :
    PE X (.Call (.Name "list" p) (e :: es) [] pos) (tCB (rListA X.K) t) := pe_callTy (CallR.box call_list_of fun _ _ _ q => q.h) hg B.list PyProof.Rows.boot_list ha (he := he) (hpl := hpl)
structure rMaxA (K : PySem.W.Frag) (xs : List V) (H : Hp) (Q : VK) : Prop where
  h : (∃ i j, xs = [.int i, .int j] ∧ Q (.int (if j > i then j else i)) H) ∨ rMax K xs H Q
theorem max2 {K : PySem.W.Frag} {i j : Int} {H : Hp} {Q : VK} (q : Q (.int (if j > i then j else i)) H) : rMaxA K [.int i, .int j] H Q := ⟨.inl ⟨i, j, rfl, q⟩⟩
theorem cb_max (B : Bi X.mg) (ha : PA X (e :: es) t) (hc : X.calm = true := by rfl) (hg : Gl X "max" := by rfl) (he : starEach (e :: es) X.env = (false, eval e X.env) :: starEach es X.env := by rfl) (hpl : (backTo pos (starEach es X.env)).any (·.1) = false := by rfl) :
    PE X (.Call (.Name "max" p) (e :: es) [] pos) (tCB (rMaxA X.K) t) := pe_callB (CallR.box (CallR.or (call_max2 hc) (cr_max hc)) fun _ _ _ q => q.h) hg B.max PyProof.Rows.boot_max ha (he := he) (hpl := hpl)
structure rMinA (K : PySem.W.Frag) (xs : List V) (H : Hp) (Q : VK) : Prop where
  h : (∃ i j, xs = [.int i, .int j] ∧ Q (.int (if j < i then j else i)) H) ∨ rMin K xs H Q
theorem min2 {K : PySem.W.Frag} {i j : Int} {H : Hp} {Q : VK} (q : Q (.int (if j < i then j else i)) H) : rMinA K [.int i, .int j] H Q := ⟨.inl ⟨i, j, rfl, q⟩⟩
theorem boot_min_ : bootBuiltins "min" = some (.builtin "min") := by decide +kernel
theorem cb_min (B : Bi X.mg) (ha : PA X (e :: es) t) (hc : X.calm = true := by rfl) (hg : Gl X "min" := by rfl) (he : starEach (e :: es) X.env = (false, eval e X.env) :: starEach es X.env := by rfl) (hpl : (backTo pos (starEach es X.env)).any (·.1) = false := by rfl) :
    PE X (.Call (.Name "min" p) (e :: es) [] pos) (tCB (rMinA X.K) t) := pe_callB (CallR.box (CallR.or (call_min2 hc) (cr_min hc)) fun _ _ _ q => q.h) hg B.min boot_min_ ha (he := he) (hpl := hpl)
theorem boot_isi : bootBuiltins "isinstance" = some (.builtin "isinstance") := by decide +kernel
theorem cb_isi (B : Bi X.mg) (ha : PA X (e :: es) t) (hg : Gl X "isinstance" := by rfl) (he : starEach (e :: es) X.env = (false, eval e X.env) :: starEach es X.env := by rfl) (hpl : (backTo pos (starEach es X.env)).any (·.1) = false := by rfl) :
    PE X (.Call (.Name "isinstance" p) (e :: es) [] pos) (tCB (fun xs H Q => rIsi X.K xs H Q ∨ rIsiT X.K xs H Q) t) := pe_callB (CallR.or call_isi call_isiT) hg B.isinstance boot_isi ha (he := he) (hpl := hpl)
theorem isiTy {K : PySem.W.Frag} {x : V} {a b : String} {r : Bool} {H : Hp} {Q : VK} (h : TyX K H x (.type a)) (k : kitB a b = some r) (q : Q (.bl r) H) : rIsi K [x, .ty b] H Q ∨ rIsiT K [x, .ty b] H Q := .inl ⟨x, .ty b, .type a, .type b, r, rfl, .ty b, h, kit_ty k, q⟩
theorem isiOwn {K : PySem.W.Frag} {x : V} {t : Value} {C : Addr} {r : Bool} {H : Hp} {Q : VK} (h : TyX K H x t) (k : PySem.W.kitOne K t (.ref C) = some r) (q : Q (.bl r) H) : rIsi K [x, .ref C] H Q ∨ rIsiT K [x, .ref C] H Q := .inl ⟨x, .ref C, t, .ref C, r, rfl, .own C, h, k, q⟩
theorem gl_ty {x : Str} {n : String} (hg : Gl X x) (hm : X.mg x = none) (hv : bootBuiltins x = some (.type n)) (hn : x ≠ "__name__" := by decide) (hd : (x == ("__debug__" : Str)) = false := by decide) : PE X (.Name x p) (tC (.ty n)) := pe_bltn hg hm hv rfl hn hd
end
mutual
theorem dp_plain {K : PySem.W.Frag} {H : Hp} : ∀ {v : V} {d : PyData}, Dp K H v d → d.hasDict = false
  | _, _, .non => by simp only [PyData.hasDict]
  | _, _, .bl b => by simp only [PyData.hasDict]
  | _, _, .int i => by simp only [PyData.hasDict]
  | _, _, .str x => by simp only [PyData.hasDict]
  | _, _, .lst _ a => by simp only [PyData.hasDict]; exact dpAll_plain a
  | _, _, .tup _ a => by simp only [PyData.hasDict]; exact dpAll_plain a
theorem dpAll_plain {K : PySem.W.Frag} {H : Hp} : ∀ {vs : List V} {ds : List PyData}, DpAll K H vs ds → PyData.hasDictAll ds = false
  | _, _, .nil => by simp only [PyData.hasDictAll]
  | _, _, .cons h a => by simp only [PyData.hasDictAll, dp_plain h, dpAll_plain a, Bool.or_self]
end
section
variable {X : Cx} {e : Expr} {es : List Expr} {t : TA} {p pos : Pos}
structure rRepr (K : PySem.W.Frag) (xs : List V) (H : Hp) (Q : VK) : Prop where
  h : (∃ x d, xs = [x] ∧ Dp K H x d ∧ d.showable = true ∧ d.depth ≤ 60 ∧ d.shown.length ≤ sizeLine ∧ Q (.str d.shown) H) ∨ ∃ a, xs = [.ref a] ∧ H a = some (.dK []) ∧ Q (.str (PyData.dict []).shown) H
theorem reprD {K : PySem.W.Frag} {x : V} {d : PyData} {H : Hp} {Q : VK} (h : Dp K H x d) (h1 : d.showable = true) (h2 : d.depth ≤ 60) (h3 : d.shown.length ≤ sizeLine) (q : Q (.str d.shown) H) : rRepr K [x] H Q := ⟨.inl ⟨x, d, rfl, h, h1, h2, h3, q⟩⟩
theorem repr0 {K : PySem.W.Frag} {a : Addr} {H : Hp} {Q : VK} (h : H a = some (.dK [])) (q : Q (.str (PyData.dict []).shown) H) : rRepr K [.ref a] H Q := ⟨.inr ⟨a, rfl, h, q⟩⟩
theorem dict0_reads {X : Cx} {pins : List (Addr × Obj)} {σ : L2.St} {H : Hp} {s : Shared} {a : Addr} (I : Inv X pins σ H s) (h : H a = some (.dK [])) : Reads s.heap (.ref a) (.dict []) [a] ∧ (a == sysModules) = false := by
  obtain ⟨_, ns, vs, kv, hd⟩ : [].length ≤ sizeLine ∧ (a == sysModules) = false ∧ ∃ vs, KV ([] : List (Key × V)) vs ∧ s.heap.DictOf (mixKind X.prog X.w) a vs := I.hok a _ h
  cases kv
  obtain ⟨o, es, ep, ho, ed, de, _, pr, _⟩ := hd
  have e0 : es.toList = [] := by
    generalize es.toList = l at pr
    cases pr
    rfl
  have z1 : ReadsAll s.heap (es.toList.map (·.key)) [] [] := by rw [e0]; exact .nil
  have z2 : ReadsAll s.heap (es.toList.map (·.val)) [] [] := by rw [e0]; exact .nil
  exact ⟨Reads.dict (kvs := []) ho ed.1 de z1 z2, ns⟩
theorem call_repr {X : Cx} (gu : X.A.guards = some []) (hu : X.A.units + 64 < cLine) : CallR X (.builtin "repr") (rRepr X.K) := by
  intro pins s σ H xs us Q I r h
  rcases h.h with ⟨x, d, rfl, hd, sh, dp, sz, q⟩ | ⟨a, rfl, ha, q⟩
  rotate_left
  · obtain ⟨u, rfl, rx⟩ := vals1 r
    cases (show u = Value.ref a from rx)
    obtain ⟨rd, ns⟩ := dict0_reads I ha
    have dp : (PyData.dict []).depth = 1 := by simp [PyData.depth, PyData.depthKv]
    refine repr_of_reads' (h₀ := s.heap) rd (by simp [PyData.showable, PyData.showableKv]) (fun _ hm => ?_) gu (by rw [dp]; omega) (fun _ _ e => e) (fun h' w tk k => ⟨.str _, H, I.kept k, ⟨_, rfl⟩, q⟩) (by simp only [PyData.shown, PyData.shownKv]; decide +kernel)
    rw [List.mem_singleton] at hm
    rw [hm] at ns
    simp at ns
  obtain ⟨u, rfl, rx⟩ := vals1 r
  cases hd with
  | non =>
    cases (show u = Value.none from rx)
    refine PySem.P.repr_of_none ⟨.str _, H, I.tok _, ⟨_, rfl⟩, ?_⟩
    simpa only [PyData.shown] using q
  | bl b =>
    cases (show u = Value.bool b from rx)
    refine PySem.P.repr_of_bool ⟨.str _, H, I.tok _, ⟨_, rfl⟩, ?_⟩
    simpa only [PyData.shown] using q
  | int i =>
    obtain ⟨tk, rfl⟩ := (show ∃ t, u = Value.int i t from rx)
    refine PySem.P.repr_of_int (by simpa [PyData.showable] using sh) ⟨.str _, H, I.tok _, ⟨_, rfl⟩, ?_⟩
    simpa only [PyData.shown] using q
  | str y =>
    obtain ⟨tk, rfl⟩ := (show ∃ t, u = Value.str y t from rx)
    refine PySem.P.repr_of_str ⟨.str _, H, I.tok _, ⟨_, rfl⟩, ?_⟩ (by simpa only [PyData.shown] using sz)
    simpa only [PyData.shown] using q
  | @lst a ys ds hl ha =>
    cases (show u = Value.ref a from rx)
    obtain ⟨as, rd⟩ := Dp.reads I (.list ds) (.ref a) (.ref a) (.lst hl ha) rfl
    exact repr_of_reads' (h₀ := s.heap) rd sh (PyData.noDict_hsm (dp_plain (K := X.K) (H := H) (.lst hl ha))) gu (by omega) (fun _ _ e => e) (fun h' w tk k => ⟨.str _, H, I.kept k, ⟨_, rfl⟩, q⟩) sz
  | @tup a ys ds hl ha =>
    cases (show u = Value.ref a from rx)
    obtain ⟨as, rd⟩ := Dp.reads I (.tuple ds) (.ref a) (.ref a) (.tup hl ha) rfl
    exact repr_of_reads' (h₀ := s.heap) rd sh (PyData.noDict_hsm (dp_plain (K := X.K) (H := H) (.tup hl ha))) gu (by omega) (fun _ _ e => e) (fun h' w tk k => ⟨.str _, H, I.kept k, ⟨_, rfl⟩, q⟩) sz
theorem cb_repr (B : Bi X.mg) (gu : X.A.guards = some []) (hu : X.A.units + 64 < cLine) (ha : PA X (e :: es) t) (hg : Gl X "repr" := by rfl) (he : starEach (e :: es) X.env = (false, eval e X.env) :: starEach es X.env := by rfl) (hpl : (backTo pos (starEach es X.env)).any (·.1) = false := by rfl) :
    PE X (.Call (.Name "repr" p) (e :: es) [] pos) (tCB (rRepr X.K) t) := pe_callB (call_repr gu hu) hg B.repr PyProof.Rows.boot_repr ha (he := he) (hpl := hpl)
end
end Z
set_option maxRecDepth 100000
set_option maxHeartbeats 4000000
namespace Z
open PySem PySem.Spec PyProof.Rows L2
open PySem.W PySem.Calls PySem.HandSPX
def xiA (f : Str) (p1 p2 : Pos) : Arguments := { posonlyargs := [], args := [{ arg := "self", annotation := none, pos := p1 }, { arg := f, annotation := none, pos := p2 }], vararg := none, kwonlyargs := [], kw_defaults := [], kwarg := none, defaults := [] }
def xiB (f m : Str) (j : Nat) (p0 p1 p2 p3 p4 p5 q1 q2 q3 q4 : Pos) : List Stmt :=
  [.Expr (.Call (.Attribute (.Call (.Name "super" p0) [] [] p1) "__init__" p2) [.Constant (.str m) j p3] [] p4) p5, .Assign [.Attribute (.Name "self" q1) f q2] (.Name f q3) q4]
def xiS (f : Str) : Scope := { kind := .function, names := [("self", .local), (f, .local), ("__class__", .free), ("super", .globalImplicit)], isGenerator := false, isCoroutine := false, more := [] }
def IsInit (f qual : Str) (fd : FuncData) : Prop := ∃ (kV doc pm cdv ct : Value) (an : Option Addr) (cc : Addr) (m : Str) (j : Nat) (p1 p2 q0 q1 q2 q3 q4 q5 r1 r2 r3 r4 : Pos),
  fd = fnX "__init__" qual (xiA f p1 p2) (xiB f m j q0 q1 q2 q3 q4 q5 r1 r2 r3 r4) (xiS f) [("__class__", cc)] .none kV doc pm an cdv ct
structure Tied (prog : Program) (K : Frag) (mg : Str → Option Value) (x f qual : Str) (C fI : Addr) : Prop where
  gC : mg x = some (.ref C)
  cls : ∃ nm q N bs bm sn sub ab col dd k0 k1 k2 k3 k5, K.lookup C = some (excClassObj nm q C N bs bm true sn sub ab col dd k0 k1 k2 k3 k5 "ValueError.__new__") ∧ refsVE bm = true
  sa : findIn K (.ref C) "__setattr__" = some (some (.builtin "object.__setattr__"))
  noN : findIn K (.ref C) f = some none
  iC : findIn K (.ref C) "__init__" = some (some (.ref fI))
  tC : typeIn K (.ref fI) = some (.type "function")
  kC : keepIn K (.ref C) = true
  exC : subIn K (.ref C) (.type "BaseException") = some true
  isV : subIn K (.ref C) (.type "ValueError") = some true
  tyC : typeIn K (.ref C) = some (.type "type")
  xf : XfC K C
  fn : ∃ (oc : Value) (od : Option Addr) (kV doc pm : Value) (an : Option Addr) (cda cc : Addr) (ct : Value) (osl : Array (Option Value)) (m : Str) (j : Nat) (p1 p2 q0 q1 q2 q3 q4 q5 r1 r2 r3 r4 : Pos) (ccl : Value) (cdd : Option Addr) (vs : Array Value) (ccs : Array (Option Value)) (file : Str) (tf : Tok) (cl : Value) (cld : Option Addr) (csl : Array (Option Value)),
    K.lookup fI = some ⟨oc, od, .func (fnX "__init__" qual (xiA f p1 p2) (xiB f m j q0 q1 q2 q3 q4 q5 r1 r2 r3 r4) (xiS f) [("__class__", cc)] .none kV doc pm an (.ref cda) ct), osl⟩ ∧ codeIn K (.ref cda) qual = true ∧
    K.lookup cda = some ⟨ccl, cdd, .fields vs, ccs⟩ ∧ vs[2]? = some (.str file tf) ∧ ((prog.main.file : Str) == file) = true ∧ (q2.endLine == q4.line) = true ∧ K.lookup cc = some ⟨cl, cld, .cell (some (.ref C)), csl⟩
  sup : mg "super" = none
  top : (prog.main.scope.names.lookup ("super" : Str)).isSome = false
  self : mroIn K C (.ref C) = some true
  up : ks_superIn K C C "__init__" = some (some (.builtin "ValueError.__init__"))
  opq : nsIn K cStatics "thirdparty.any" = some none
  nf : f ≠ "self"
  nsup : f ≠ "super"
  ncls : f ≠ "__class__"
  ndb : f ≠ "__debug__"
  bd : ∀ (fd : FuncData) (a v : Value), IsInit f qual fd → bindArgs fd ⟨[a, v], []⟩ = pure ([("self", a), (f, v)] : List (Str × Value))
theorem bd_value {qual : Str} (fd : FuncData) (a v : Value) (h : IsInit "value" qual fd) : bindArgs fd ⟨[a, v], []⟩ = pure ([("self", a), ("value", v)] : List (Str × Value)) := by
  obtain ⟨kV, doc, pm, cdv, ct, an, cc, m, j, p1, p2, q0, q1, q2, q3, q4, q5, r1, r2, r3, r4, rfl⟩ := h
  with_unfolding_all rfl
theorem bd_part {qual : Str} (fd : FuncData) (a v : Value) (h : IsInit "part" qual fd) : bindArgs fd ⟨[a, v], []⟩ = pure ([("self", a), ("part", v)] : List (Str × Value)) := by
  obtain ⟨kV, doc, pm, cdv, ct, an, cc, m, j, p1, p2, q0, q1, q2, q3, q4, q5, r1, r2, r3, r4, rfl⟩ := h
  with_unfolding_all rfl
theorem bd_index {qual : Str} (fd : FuncData) (a v : Value) (h : IsInit "index" qual fd) : bindArgs fd ⟨[a, v], []⟩ = pure ([("self", a), ("index", v)] : List (Str × Value)) := by
  obtain ⟨kV, doc, pm, cdv, ct, an, cc, m, j, p1, p2, q0, q1, q2, q3, q4, q5, r1, r2, r3, r4, rfl⟩ := h
  with_unfolding_all rfl
theorem bd_many {qual : Str} (fd : FuncData) (a v : Value) (h : IsInit "many" qual fd) : bindArgs fd ⟨[a, v], []⟩ = pure ([("self", a), ("many", v)] : List (Str × Value)) := by
  obtain ⟨kV, doc, pm, cdv, ct, an, cc, m, j, p1, p2, q0, q1, q2, q3, q4, q5, r1, r2, r3, r4, rfl⟩ := h
  with_unfolding_all rfl
theorem bd_line {qual : Str} (fd : FuncData) (a v : Value) (h : IsInit "line" qual fd) : bindArgs fd ⟨[a, v], []⟩ = pure ([("self", a), ("line", v)] : List (Str × Value)) := by
  obtain ⟨kV, doc, pm, cdv, ct, an, cc, m, j, p1, p2, q0, q1, q2, q3, q4, q5, r1, r2, r3, r4, rfl⟩ := h
  with_unfolding_all rfl
theorem bd_most {qual : Str} (fd : FuncData) (a v : Value) (h : IsInit "most" qual fd) : bindArgs fd ⟨[a, v], []⟩ = pure ([("self", a), ("most", v)] : List (Str × Value)) := by
  obtain ⟨kV, doc, pm, cdv, ct, an, cc, m, j, p1, p2, q0, q1, q2, q3, q4, q5, r1, r2, r3, r4, rfl⟩ := h
  with_unfolding_all rfl
theorem bd_who {qual : Str} (fd : FuncData) (a v : Value) (h : IsInit "who" qual fd) : bindArgs fd ⟨[a, v], []⟩ = pure ([("self", a), ("who", v)] : List (Str × Value)) := by
  obtain ⟨kV, doc, pm, cdv, ct, an, cc, m, j, p1, p2, q0, q1, q2, q3, q4, q5, r1, r2, r3, r4, rfl⟩ := h
  with_unfolding_all rfl
theorem one_sz (v : Value) : [v].length ≤ sizeLine := by
  rw [sizeLine_eq]
  exact (by decide : 1 ≤ 16777216)
theorem boot_super_ : bootBuiltins "super" = some (.type "super") := by decide +kernel
theorem eqs_ne {a b : Str} (h : a ≠ b) : (b == a) = false := by
  rw [beq_eq_false_iff_ne]
  exact fun e => h e.symm
section
variable {prog : Program} {w : World} {A : Around} {E : Value → Shared → Prop} {R : Result → Shared → Prop} {s : Shared} {K : Frag} {mg mb : Str → Option Value} {x f qual : Str} {C fI : Addr}
theorem xiS_f (h1 : f ≠ "self") : (xiS f).names.lookup f = some .local := by
  unfold xiS
  simp [List.lookup, beq_eq_false_iff_ne.mpr h1]
theorem xiS_self : (xiS f).names.lookup ("self" : Str) = some .local := rfl
theorem xiS_cls (h2 : f ≠ "__class__") : (xiS f).names.lookup ("__class__" : Str) = some .free := by
  unfold xiS
  have a : (("__class__" : Str) == f) = false := eqs_ne h2
  have b : (("__class__" : Str) == ("self" : Str)) = false := by decide
  simp [List.lookup, a, b]
theorem xiS_super (h2 : f ≠ "super") : (xiS f).names.lookup ("super" : Str) = some .globalImplicit := by
  unfold xiS
  have a : (("super" : Str) == f) = false := eqs_ne h2
  have b : (("super" : Str) == ("self" : Str)) = false := by decide
  have c : (("super" : Str) == ("__class__" : Str)) = false := by decide
  simp [List.lookup, a, b, c]
theorem call_tree {o : Expr} {name : Str} {apos pos : Pos} {e : Expr} {env : Env} (h : (apos.endLine == pos.line) = true) (hs : starEach [e] env = (false, eval e env) :: starEach [] env) :
    eval (.Call (.Attribute o name apos) [e] [] pos) env = (do
        let ov ← attributeBase o name env (eval o env)
        standAt apos.atName
        let (f, first) ← holding [ov] (getMethod ov name (do return (← importBound o env).getD true))
        callWith pos f first (backTo pos (starEach [e] env)) []) := by
  show (attributeBase o name env (eval o env) >>= fun ov => standAt apos.atName >>= fun _ => methodCall o name apos pos env ov 1 (backTo pos (starEach [e] env)) (backToKw pos (keywordEach [] env))) = _
  rw [hs]
  unfold methodCall methodCallPos
  have hf : methodCallForm 1 (backTo pos ((false, eval e env) :: starEach [] env)) (backToKw pos (keywordEach [] env)) = true := by rfl
  rw [hf]
  simp only [h, calleeOf, Bool.not_true, Bool.false_or, if_true, pure_bind]
  rfl
theorem tied_up {h : Heap} {g : Array GenState} {d : Drawn} {t : Nat} {os : OsState} {nm q : Str} {N u e t0 : Addr} {bs bm : List Value} {hdct : Bool} {sn : List Str} {sub : List Value} {ab : Bool} {col : Option Bool} {dd : Option Addr} {k0 k1 k2 k3 k5 : Option Value} {B newId initId : String} {bmB : List Value} (FB : ExcBaseFacts B newId initId bmB)
    {rest : List Value} {Q : Value → Shared → Prop}
    (hC : h.get? C = some (excClassObj nm q C N bs bm hdct sn sub ab col dd k0 k1 k2 k3 k5 newId)) (he : h.get? e = some (excO C t0)) (hu : h.get? u = some (kxs_mw initId e)) (hz : rest.length ≤ sizeLine)
    (hq : ∀ h' t1, (∀ b o, b ≠ e → h.get? b = some o → h'.get? b = some o) → h'.get? e = some (excO C t1) → Q .none ⟨h', g, d, t, os⟩) :
    wpAny (model prog w) A (call (.ref u) rest) Q E ⟨h, g, d, t, os⟩ := by
  refine wpAny_call (codeAny_of_tree ?_)
  show wpAny _ A.in1 (callAny (.ref u) ⟨rest, []⟩) _ _ _
  simp only [callAny]
  refine wpAny_bind (wpAny_load hu ?_)
  simp only [kxs_mw, show (Value.type "method-wrapper" == Value.type "method" || Value.type "method-wrapper" == Value.type "builtin_function_or_method" || Value.type "method-wrapper" == Value.type "method-wrapper") = true by decide, if_true]
  refine KFB.if_so (by decide) ?_
  refine wpAny_bind (check_bound_init FB.toExcCallFacts hC he rfl ?_)
  refine wpAny_bind (wpAny_pure (wpAny_pure ?_))
  refine ⟨plainId_quiet FB.init.plain _, codeAny_builtin FB.initEntry ?_⟩
  exact exc_init_tree (cls := .ref C) (t0 := t0) (dv := none) (c2 := .none) (c3 := .none) (b4 := .bool false) he hz fun h' k e' _ => hq h' h.objs.size k e'
theorem tied_init (T : Tied prog K mg x f qual C fI) {e t0 : Addr} {v : Value} {args : Args} (X : K.In s.heap) (hlim : s.heap.NoLimit) (glob : s.heap.Ns mainGlobals mg) (blt : s.heap.Ns builtinsNs mb) (bb : ∀ y : Str, y ≠ "__name__" → mb y = bootBuiltins y)
    (he : s.heap.get? e = some (excO C t0)) (hnx : K.lookup e = none) (hroom : A.depth < recursionLimit) (hb : ∀ fd, IsInit f qual fd → BindsTo s fd args [("self", .ref e), (f, v)])
    (hq : ∀ h' tk dx t1, (∀ b o, b ≠ e → s.heap.get? b = some o → h'.get? b = some o) → h'.get? e = some { cls := .ref C, dict := some dx, data := .fields #[.ref t1, .none, .none, .none, .bool false, .none] } → s.heap.objs.size ≤ dx → dx ≠ e →
      h'.Ns1 dx (fun y => if y = f then some v else none) → R (.ok (.ret .none)) { s with heap := h', toks := tk }) :
    codeAny (model prog w) A (.call (.ref fI) args) R s := by
  obtain ⟨oc, od, kV, doc, pm, an, cda, cc, ct, osl, m, j, p1, p2, q0, q1, q2, q3, q4, q5, r1, r2, r3, r4, ccl, cdd, vs, ccs, file, tf, cl, cld, csl, lk, code, lkc, hvs, hfile, hline, lcell⟩ := T.fn
  obtain ⟨nm, q, N, bs, bm, sn, sub, ab, col, dd, k0, k1, k2, k3, k5, hC, hbm⟩ := T.cls
  have hcl : clsIn K C = some { name := nm, bases := bs, mro := .ref C :: bm, ns := N, qualname := q, hasDict := true, slotNames := sn, subclasses := sub, abstract := ab, collection := col, hasDel := false } := by unfold clsIn; rw [hC] <;> rfl
  have lsf := xiS_f (f := f) T.nf
  have lcs := xiS_cls (f := f) T.ncls
  have lsu := xiS_super (f := f) T.nsup
  refine ks_codeAny_call_defAt (fd := fnX "__init__" qual (xiA f p1 p2) (xiB f m j q0 q1 q2 q3 q4 q5 r1 r2 r3 r4) (xiS f) [("__class__", cc)] .none kV doc pm an (.ref cda) ct) (body := xiB f m j q0 q1 q2 q3 q4 q5 r1 r2 r3 r4) (binds := [("self", .ref e), (f, v)])
    hroom (X _ _ lk) rfl hlim (codeRec_of X code) rfl (hb _ ⟨kV, doc, pm, .ref cda, ct, an, cc, m, j, p1, p2, q0, q1, q2, q3, q4, q5, r1, r2, r3, r4, rfl⟩) (fun y hy => ?_) (fun y hy => ?_) (fun h1 hns kk => ?_) rfl rfl rfl
  · simp only [xiS, List.mem_cons, List.not_mem_nil, or_false] at hy
    rcases hy with rfl | rfl | rfl | rfl <;> (intro z; cases z)
  · simp only [List.mem_cons, List.not_mem_nil, or_false] at hy
    rcases hy with rfl | rfl
    · exact rfl
    · exact lsf
  have X1 : K.In h1 := X.keeps kk
  have he1 := kk _ _ he
  have hself : ([(("self" : Str), Value.ref e), (f, v)].reverse).lookup ("self" : Str) = some (.ref e) := by
    simp [List.lookup, eqs_ne T.nf]
  have hval : ([(("self" : Str), Value.ref e), (f, v)].reverse).lookup f = some v := by
    simp [List.lookup]
  generalize hm : (fun y => ([(("self" : Str), Value.ref e), (f, v)].reverse).lookup y) = m0 at hns
  have e1 : m0 ("self" : Str) = some (.ref e) := by rw [← hm]; exact hself
  have e2 : m0 f = some v := by rw [← hm]; exact hval
  have hlt := hns.lt
  have hLe : s.heap.objs.size ≠ e := Nat.ne_of_gt (Heap.lt_size he)
  refine ks_wpAt_execs_cons (ks_wpAt_Expr_any (ks_wpAt_MethodCall ?h1 (call_tree hline rfl)) rfl rfl)
  case h1 =>
    refine ks_wpAt_super_base (env := callEnv (fnX "__init__" qual (xiA f p1 p2) (xiB f m j q0 q1 q2 q3 q4 q5 r1 r2 r3 r4) (xiS f) [("__class__", cc)] .none kV doc pm an (.ref cda) ct) s.heap.objs.size fI) lsu lcs rfl rfl (X1 _ _ lk) rfl rfl rfl (X1 _ _ lkc) rfl hvs hfile T.top ?_
    refine ks_loadName_global rfl lsu (loadGlobal_builtin (glob.keeps kk) T.sup (blt.keeps kk) ((bb _ (by decide)).trans boot_super_) ⟨rfl, ?_⟩)
    refine wpAny_loadName_free rfl lcs rfl ⟨_, X1 _ _ lcell, rfl⟩ ?_
    refine wpAny_loadName_local rfl xiS_self hns e1 ?_
    refine ks_wpAny_isType_cls (X1 _ _ hC) rfl ⟨rfl, ?_⟩
    refine ks_wpAny_call_super (X1 _ _ hC) rfl he1 rfl (fun c z => by cases z) (looks_mroIn X1 T.self) (fun h2 hso k2 => ?_)
    have X2 : K.In h2 := X1.keeps k2
    have hxC : e ≠ C := fun z => by
      rw [z] at hnx
      rw [hnx] at hC
      cases hC
    have I2 : InstAt h2 e (excO C t0) C none := ⟨k2 _ _ he1, rfl, rfl, trivial⟩
    have hup := T.up
    unfold ks_superIn at hup
    rw [hcl] at hup
    refine kxs_getMethod kxs_ValueError hso (looks_opaque X2 T.opq) (l₀ := .ref C :: bm) ?_ rfl X2 hup (I2.type.andThen (looks_subIn X2 T.isV)) hxC (by decide) ?_
    · exact fun A Q E s k q => wpAny_bind ((looks_clsIn X2 hcl) A _ E s k (wpAny_pure q))
    refine kxs_callWith (i := "ValueError.__init__") (x := e) rfl (evalArgs_plain (Calls.spliced_cons (Calls.Constant_str (k := j) (pos := q3) (Calls.spliced_nil ⟨Heap.get?_push_at rfl rfl, ?_⟩))))
    refine tied_up (C := C) PySem.F.excBase_ValueError (Heap.get?_push_of_some _ (X2 _ _ hC)) (Heap.get?_push_of_some _ I2.at_) (Heap.get?_push_at rfl rfl) (one_sz _) fun h3 t1 k3 he3 => ?_
    have k23 : ∀ b o, b ≠ e → h2.get? b = some o → h3.get? b = some o := fun b o hb z => k3 b o hb (Heap.get?_push_of_some _ z)
    have k13 : ∀ b o, b ≠ e → h1.get? b = some o → h3.get? b = some o := fun b o hb z => k23 b o hb (k2 b o z)
    have X3 : K.In h3 := fun b o z => k13 b o (fun y => by rw [y, hnx] at z; cases z) (X1 _ _ z)
    have hns3 : h3.Ns s.heap.objs.size m0 := by
      obtain ⟨oL, es, ep, hL, r⟩ := hns
      exact ⟨oL, es, ep, k13 _ _ hLe hL, r⟩
    show PySem.wpAt _ _ _ (execs _ _) _ _ _
    refine ks_wpAt_execs_cons (ks_wpAt_Assign_Attr ?_ rfl)
    refine wpAt_of_wpAny (wpAny_Name (wpAny_loadName_local rfl lsf hns3 e2 ?_) (eqs_ne T.ndb.symm))
    refine wpAny_Name (wpAny_loadName_local rfl xiS_self hns3 e1 ?_) (by decide)
    refine set_plain X3 (ox := excO C t1) (od := none) ⟨he3, rfl, rfl, trivial⟩ T.sa ?_
    refine exc_osa X3 he3 hcl (show refsVE (.ref C :: bm) = true from hbm) rfl T.noN (fun h4 tk4 dx k4 dn dne he4 hn4 => ?_)
    show PySem.wpAt _ _ _ (execs _ _) _ _ _
    refine wpAt_of_wpAny (wpAny_execs_nil ?_)
    have z3 : s.heap.objs.size < h3.objs.size := hns3.lt
    exact hq h4 tk4 dx t1 (fun b o hb z => k4 b o hb (k13 b o hb (kk b o z))) he4 (Nat.le_of_lt (Nat.lt_of_lt_of_le z3 dn)) dne hn4
structure Made (f : Str) (h h' : Heap) (e C d : Addr) (v : Value) : Prop where
  keep : ∀ b o, h.get? b = some o → h'.get? b = some o
  new : h.objs.size ≤ e
  obj : ∃ t1 : Addr, h'.get? e = some { cls := .ref C, dict := some d, data := .fields #[.ref t1, .none, .none, .none, .bool false, .none] }
  dbig : h.objs.size ≤ d
  dne : d ≠ e
  ns : h'.Ns1 d (fun y => if y = f then some v else none)
theorem tied_made (T : Tied prog K mg x f qual C fI) {v : Value} (X : K.In s.heap) (hlim : s.heap.NoLimit) (glob : s.heap.Ns mainGlobals mg) (blt : s.heap.Ns builtinsNs mb) (bb : ∀ y : Str, y ≠ "__name__" → mb y = bootBuiltins y) (hroom : A.depth + 1 < recursionLimit)
    (hq : ∀ h' tk e d, Made f s.heap h' e C d v → R (.ok (.ret (.ref e))) { s with heap := h', toks := tk }) :
    codeAny (model prog w) A (.call (.ref C) ⟨[v], []⟩) R s := by
  obtain ⟨nm, q, N, bs, bm, sn, sub, ab, col, dd, k0, k1, k2, k3, k5, hC, hbm⟩ := T.cls
  obtain ⟨hp, g, dr, tk, os⟩ := s
  have k : ∀ b o, hp.get? b = some o → ((hp.push (kdv_tup [v])).push (excO C hp.objs.size)).get? b = some o := fun b o e => Heap.get?_push_of_some _ (Heap.get?_push_of_some _ e)
  have hget : ((hp.push (kdv_tup [v])).push (excO C hp.objs.size)).get? (hp.objs.size + 1) = some (excO C hp.objs.size) := by heap_get
  have hnx : K.lookup (hp.objs.size + 1) = none := by
    cases e : K.lookup (hp.objs.size + 1) with
    | none => rfl
    | some o =>
      have z : hp.get? (hp.objs.size + 1) = some o := X _ _ e
      exact absurd (Nat.lt_of_succ_lt (Heap.lt_size z)) (Nat.lt_irrefl _)
  refine HandSPX.call_own PySem.F.excBase_ValueError (fun X => refsVE_contains X bm hbm) (X _ _ hC) (looks_findIn X T.iC) (fun self => bind_fn X self T.tC) (one_sz v) ?_
  refine tied_init (s := ⟨(hp.push (kdv_tup [v])).push (excO C hp.objs.size), g, dr, tk, os⟩) T (X.keeps k) (hlim.keeps k) (glob.keeps k) (blt.keeps k) bb hget hnx ?_ (fun fd hf => .of_eq (T.bd fd _ _ hf)) fun h' tk' dx t1 k' hx dn dne hns => ?_
  · show A.depth + 1 < recursionLimit
    exact hroom
  · have old : ∀ b o, hp.get? b = some o → h'.get? b = some o := fun b o e => k' b o (Nat.ne_of_lt (Nat.lt_succ_of_lt (Heap.lt_size e))) (k b o e)
    have z : hp.objs.size + 1 + 1 ≤ dx := by
      have q := dn
      rw [Heap.size_push, Heap.size_push] at q
      exact q
    exact ⟨rfl, hq h' tk' (hp.objs.size + 1) dx ⟨old, Nat.le_succ _, ⟨t1, hx⟩, Nat.le_trans (Nat.le_trans (Nat.le_succ _) (Nat.le_succ _)) z, dne, hns⟩⟩
end
theorem relO_one {g : Str} {v : V} {v' : Value} (r : RelV v v') (f : Str) : RelO (List.lookup f [(g, v)]) (if f = g then some v' else none) := by
  by_cases hw : f = g
  · subst hw
    rw [if_pos rfl]
    have q : List.lookup f [(f, v)] = some v := by simp [List.lookup]
    rw [q]
    exact r
  · rw [if_neg hw]
    have q2 : List.lookup f [(g, v)] = none := by simp [List.lookup, beq_eq_false_iff_ne.mpr hw]
    rw [q2]
    trivial
section
variable {X : Cx} {x f qual : Str} {C fI : Addr} {p pos : Pos} {e : Expr} {te : TA}
def tMkT (C : Addr) (f : Str) (ta : TA) : L2.St → Hp → XK → Prop := fun σ H Q => ta σ H fun vs H1 => ∃ v, vs = [v] ∧ ∀ d, H1 d = none → Q (.ref C) (some d) (upd H1 d (.xd [(f, v)]))
theorem pmk_tied {k : Nat} (T : Tied X.prog X.K X.mg x f qual C fI) (hr : Room k X.A) (ha : PA X [e] te) (hg : Gl X x := by rfl) (hdb : (x == ("__debug__" : Str)) = false := by decide)
    (he : starEach (e :: []) X.env = (false, eval e X.env) :: starEach [] X.env := by rfl) (hpl : (backTo pos (starEach [] X.env)).any (·.1) = false := by rfl) :
    PMk X (.Call (.Name x p) [e] [] pos) (tMkT C f te) := by
  intro pins s σ H Q I h
  refine wpAny_Call_Name_kw (ld_glob I hg T.gC ?_ hdb)
  refine PySem.W.callWith_K (h₀ := X.base) I.ok.mod.kin T.kC (thn (ha.run pos pins s σ H _ I h) fun us s1 hh => ?_) he hpl
  obtain ⟨vs, H1, I1, r1, v, ev, q1⟩ := hh
  subst ev
  refine ⟨I1.kIn, ?_⟩
  cases r1 with
  | cons rv rn =>
    rename_i v' us'
    cases rn
    show wpAny _ _ (call (.ref C) [v']) _ _ _
    obtain ⟨mb, blt, bb⟩ := I1.mod.blt
    have lim := I1.nolimit
    have glob := I1.mod.glob.keeps I1.bk
    have blt1 := blt.keeps I1.bk
    obtain ⟨hp, g, dr, tk, os⟩ := s1
    refine wpAny_call (tied_made T I1.kIn lim glob blt1 bb (by have := hr.dp; omega) fun h' tk' e d M => ?_)
    show MkP X pins σ Q (.ref e) ⟨h', g, dr, tk', os⟩
    obtain ⟨t1, hoe⟩ := M.obj
    have hns := M.ns
    obtain ⟨G', g1, g2⟩ := restrict h' fun b => decide (b ≠ e)
    have gk : ∀ b, b ≠ e → G'.get? b = h'.get? b := fun b hb => g1 b (decide_eq_true hb)
    have ge : G'.get? e = none := g2 e (by simp)
    have old : ∀ b o, hp.get? b = some o → G'.get? b = some o := fun b o q => (gk b (Nat.ne_of_lt (Nat.lt_of_lt_of_le (Heap.lt_size q) M.new))).trans (M.keep b o q)
    have ob : ObjOk X.prog X.w (upd H1 d (.xd [(f, v)])) G' d (.xd [(f, v)]) := ⟨_, hns.at (fun o q => (gk d M.dne).trans q), fun y => relO_one rv y⟩
    have J : Inv X pins σ (upd H1 d (.xd [(f, v)])) ⟨G', g, dr, tk', os⟩ := I1.laid (t' := tk') old M.dbig ob
    refine ⟨e, _, _, ⟨G', g, dr, tk', os⟩, _, .ref C, some d, rfl, J, fun b o q => ?_, ge, hoe, ⟨rfl, rfl⟩, rfl, rfl, ?_, rfl, I1.bare, raises_own T.exC T.tyC, q1 d (I1.hok.fresh M.dbig)⟩
    · by_cases hb : b = e
      · have q' : G'.get? b = some o := q
        rw [hb, ge] at q'
        cases q'
      · exact (gk b hb).symm.trans q
    · rw [upd_ne (Ne.symm M.dne)]
      exact I1.hok.fresh M.new
theorem ps_raiseT {W : WX} {k : Nat} {pos2 : Pos} (tk : Takes X W) (T : Tied X.prog X.K X.mg x f qual C fI) (hr : Room k X.A) (ha : PA X [e] te) (hc : X.calm = true := by rfl) (hg : Gl X x := by rfl) (hdb : (x == ("__debug__" : Str)) = false := by decide)
    (he : starEach (e :: []) X.env = (false, eval e X.env) :: starEach [] X.env := by rfl) (hpl : (backTo pos (starEach [] X.env)).any (·.1) = false := by rfl) :
    PS X (.Raise (some (.Call (.Name x p) [e] [] pos)) none pos2) (fun _ σ H => tMkT C f te σ H fun cls d H' => W cls d σ H') := ps_raise hc tk (pmk_tied T hr ha hg hdb he hpl)
end
end Z
set_option maxRecDepth 100000
set_option maxHeartbeats 4000000
namespace Z
open PySem PySem.Spec PyProof.Rows L2
structure Df (K : PySem.W.Frag) (mg : Str → Option Value) (x : Str) (st : Stmt) (ps : List Str) (f : Addr) (fd : FuncData) : Prop where
  mg : mg x = some (.ref f)
  fn : Fun K x x st f fd
  bd : Binds K fd ps []
structure Dm (K : PySem.W.Frag) (C : Addr) (m qual : Str) (st : Stmt) (ps : List Str) (f : Addr) (fd : FuncData) : Prop where
  me : Meth K C m f
  fn : Fun K m qual st f fd
  bd : Binds K fd ps []
section
variable {X : Cx} {e : Expr} {es : List Expr} {t : TA} {p pos : Pos} {x : Str} {st : Stmt} {ps : List Str} {f : Addr} {fd : FuncData} {sp : Sp} {k : Nat}
theorem pe_cf (D : Df X.K X.mg x st ps f fd) (G : FnOk X.prog X.w X.K X.mg X.base CX0 k f fd ps sp) (hr : Room k X.A) (ha : PA X (e :: es) t) (hg : Gl X x := by rfl) (hdb : (x == ("__debug__" : Str)) = false := by decide)
    (he : starEach (e :: es) X.env = (false, eval e X.env) :: starEach es X.env := by rfl) (hpl : (backTo pos (starEach es X.env)).any (·.1) = false := by rfl) :
    PE X (.Call (.Name x p) (e :: es) [] pos) (tCall sp [] E0 t) := pe_call G hr hg D.mg D.fn.kp D.bd .nil pass0 ha hdb he hpl
theorem pe_cfG (D : Df X.K X.mg x st ps f fd) (G : FnG X.prog X.w X.K X.mg X.base CX0 k f fd ps sp) (hr : Room k X.A) (gu : X.A.guards = some []) (ha : PA X (e :: es) t) (hg : Gl X x := by rfl) (hdb : (x == ("__debug__" : Str)) = false := by decide)
    (he : starEach (e :: es) X.env = (false, eval e X.env) :: starEach es X.env := by rfl) (hpl : (backTo pos (starEach es X.env)).any (·.1) = false := by rfl) :
    PE X (.Call (.Name x p) (e :: es) [] pos) (tCallS sp (fun _ _ _ _ => False) t) := pe_callG G hr gu hg D.mg D.fn.kp D.bd passAt0 ha hdb he hpl
end
theorem But.tk {l : Addr} {H H' : Hp} {xs : List V} (b : But l H H') (h : H l = some (.lst xs)) : TK H H' :=
  ⟨fun c ys e => b c _ (ne_of e h (by intro z; cases z)) e, fun c o u e => b c _ (ne_of e h (by intro z; cases z)) e⟩
theorem But.sql {K : PySem.W.Frag} {l a : Addr} {H H' : Hp} {xs : List V} (b : But l H H') (ne : a ≠ l) (h : SqL K H a xs) : SqL K H' a xs := by
  rcases h with (h | ⟨o, h⟩) | h
  · exact .inl (.inl (b _ _ ne h))
  · exact .inl (.inr ⟨o, b _ _ ne h⟩)
  · exact .inr h
inductive Tr where
  | con (n : Int)
  | var (w : Str)
  | cho (a b c d : Tr)
  deriving DecidableEq
namespace Tr
def d : Tr → PyData
  | .con n => .int n
  | .var w => .str w
  | .cho a b c e => .tuple [a.d, b.d, c.d, e.d]
def deep : Tr → Nat
  | .con _ => 1
  | .var _ => 1
  | .cho a b c e => 1 + max (max a.deep b.deep) (max c.deep e.deep)
def str (s : String) : Str := s
def text : Tr → Str
  | .con n => toString n
  | .var w => w
  | .cho a b c e => str "(" ++ a.text ++ str "=" ++ b.text ++ str "?" ++ c.text ++ str ":" ++ e.text ++ str ")"
end Tr
theorem tr_tk {K : PySem.W.Frag} {H H' : Hp} (k : TK H H') : ∀ (t : Tr) {v : V}, Dp K H v t.d → Dp K H' v t.d
  | .con n, _, h => by
    unfold Tr.d at h ⊢
    cases h
    exact .int n
  | .var w, _, h => by
    unfold Tr.d at h ⊢
    cases h
    exact .str w
  | .cho a b c e, v, h => by
    unfold Tr.d at h ⊢
    cases h with
    | tup sq al =>
      cases al with | cons h1 al => cases al with | cons h2 al => cases al with | cons h3 al => cases al with | cons h4 al =>
      cases al
      exact .tup (SqT.tk k sq) (.cons (tr_tk k a h1) (.cons (tr_tk k b h2) (.cons (tr_tk k c h3) (.cons (tr_tk k e h4) .nil))))
theorem tr_con {K : PySem.W.Frag} {H : Hp} {n : Int} {v : V} (h : Dp K H v (Tr.con n).d) : v = .int n := by
  unfold Tr.d at h
  cases h
  rfl
theorem tr_var {K : PySem.W.Frag} {H : Hp} {w : Str} {v : V} (h : Dp K H v (Tr.var w).d) : v = .str w := by
  unfold Tr.d at h
  cases h
  rfl
theorem tr_cho {K : PySem.W.Frag} {H : Hp} {a b c e : Tr} {v : V} (h : Dp K H v (Tr.cho a b c e).d) : ∃ (p : Addr) (v1 v2 v3 v4 : V), v = .ref p ∧ SqT K H p [v1, v2, v3, v4] ∧ Dp K H v1 a.d ∧ Dp K H v2 b.d ∧ Dp K H v3 c.d ∧ Dp K H v4 e.d := by
  unfold Tr.d at h
  cases h with
  | tup sq al =>
    cases al with | cons h1 al => cases al with | cons h2 al => cases al with | cons h3 al => cases al with | cons h4 al =>
    cases al
    exact ⟨_, _, _, _, _, rfl, sq, h1, h2, h3, h4⟩
theorem tr_tup {K : PySem.W.Frag} {H : Hp} {a b c e : Tr} {p : Addr} {v1 v2 v3 v4 : V} (sq : SqT K H p [v1, v2, v3, v4]) (h1 : Dp K H v1 a.d) (h2 : Dp K H v2 b.d) (h3 : Dp K H v3 c.d) (h4 : Dp K H v4 e.d) : Dp K H (.ref p) (Tr.cho a b c e).d :=
  .tup sq (.cons h1 (.cons h2 (.cons h3 (.cons h4 .nil))))
theorem eqv_refl : ∀ t : Tr, PyData.eqv t.d t.d = true
  | .con n => by simp [Tr.d, PyData.eqv]
  | .var w => by simp [Tr.d, PyData.eqv]
  | .cho a b c e => by simp [Tr.d, PyData.eqv, PyData.eqvAll, eqv_refl a, eqv_refl b, eqv_refl c, eqv_refl e]
theorem eqv_tr : ∀ s t : Tr, PyData.eqv s.d t.d = decide (s = t)
  | .con n, .con m => by simp [Tr.d, PyData.eqv, Bool.beq_eq_decide_eq]
  | .con n, .var _ => by simp [Tr.d, PyData.eqv]
  | .con n, .cho _ _ _ _ => by simp [Tr.d, PyData.eqv]
  | .var n, .con m => by simp [Tr.d, PyData.eqv]
  | .var n, .var m => by simp [Tr.d, PyData.eqv, Bool.beq_eq_decide_eq]
  | .var n, .cho _ _ _ _ => by simp [Tr.d, PyData.eqv]
  | .cho _ _ _ _, .con m => by simp [Tr.d, PyData.eqv]
  | .cho _ _ _ _, .var _ => by simp [Tr.d, PyData.eqv]
  | .cho a b c e, .cho a' b' c' e' => by
    simp only [Tr.d, PyData.eqv, PyData.eqvAll, eqv_tr a a', eqv_tr b b', eqv_tr c c', eqv_tr e e', Tr.cho.injEq, Bool.and_true, Bool.decide_and]
def isLet (c : Nat) : Prop := 97 ≤ c ∧ c ≤ 122
def Word (w : Str) : Prop := 1 ≤ w.length ∧ w.length ≤ 8 ∧ ∀ c ∈ w.cps.toList, isLet c
def Tr.Ok : Tr → Prop
  | .con n => 0 ≤ n ∧ n ≤ 9
  | .var w => Word w
  | .cho a b c e => a.Ok ∧ b.Ok ∧ c.Ok ∧ e.Ok
theorem deep_pos : ∀ t : Tr, 1 ≤ t.deep
  | .con _ => Nat.le_refl _
  | .var _ => Nat.le_refl _
  | .cho a b c e => by unfold Tr.deep; omega
theorem d_depth : ∀ t : Tr, t.d.depth ≤ t.deep
  | .con n => by simp [Tr.d, Tr.deep, PyData.depth]
  | .var w => by simp [Tr.d, Tr.deep, PyData.depth]
  | .cho a b c e => by
    have h1 := d_depth a
    have h2 := d_depth b
    have h3 := d_depth c
    have h4 := d_depth e
    simp only [Tr.d, Tr.deep, PyData.depth, PyData.depthAll]
    omega
end Z
set_option maxRecDepth 100000
set_option maxHeartbeats 4000000
namespace Z
open PySem PySem.Spec PyProof.Rows L2
theorem ps_no {X : Cx} {st : Stmt} : PS X st tNever := ⟨fun _ _ _ _ _ _ h => h.elim⟩
theorem pss_no {X : Cx} {st : List Stmt} : PSs X st tNever := ⟨fun _ _ _ _ _ _ h => h.elim⟩
theorem pe_no {X : Cx} {e : Expr} : PE X e (fun _ _ _ => False) := ⟨fun _ _ _ _ _ _ h => h.elim⟩
section
variable {J : It} {n : Nat} {G : Hp → Prop} {Y : Nat → Hp → V → Hp → Prop}
theorem lc_acc (w : Walk J n G Y) {g : TG} {tt : TT} {te : TE} {vs : List Nat} {σ : L2.St} {H1 : Hp} {D : Addr} {Qd : Hp → Prop} (I : Nat → List V → Hp → Prop) (h0 : I 0 [] (upd H1 D (.lst []))) (hG : ∀ i acc H, i ≤ n → H D = some (.lst acc) → I i acc H → G H)
    (hs : ∀ i x acc H H', i < n → H D = some (.lst acc) → I i acc H → Y i H x H' → g x (wipe σ vs) H' fun σ2 H2 => wipe σ2 vs = wipe σ vs ∧ tt σ2 H2 fun b H3 =>
      if b = true then te σ2 H3 fun y H4 => H4 D = some (.lst acc) ∧ acc.length < sizeLine ∧ I (i + 1) (acc ++ [y]) (upd H4 D (.lst (acc ++ [y]))) else H3 D = some (.lst acc) ∧ I (i + 1) acc H3)
    (mtt : ∀ σ H (P P' : Bool → Hp → Prop), (∀ b H, P b H → P' b H) → tt σ H P → tt σ H P')
    (mte : ∀ σ H (P P' : V → Hp → Prop), (∀ b H, P b H → P' b H) → te σ H P → te σ H P')
    (mg : ∀ x σ H (P P' : L2.St → Hp → Prop), (∀ b H, P b H → P' b H) → g x σ H P → g x σ H P')
    (hd : ∀ acc H, H D = some (.lst acc) → I n acc H → Qd H) :
    ∃ W : Nat → Nat → Hp → Prop, (∃ m, W 0 m (upd H1 D (.lst []))) ∧ ∀ i m H, W i m H →
      (J.stop i H ∧ Qd H) ∨ (J.go i H ∧ ∃ Nx : Hp → Prop, (∀ H', Nx H' → ∃ m', m' < m ∧ W (i + 1) m' H') ∧ ∀ x H', J.yld i H x H' → g x (wipe σ vs) H' fun σ2 H2 => wipe σ2 vs = wipe σ vs ∧ tt σ2 H2 fun b H3 =>
        if b = true then te σ2 H3 fun y H4 => ∃ acc, H4 D = some (.lst acc) ∧ acc.length < sizeLine ∧ Nx (upd H4 D (.lst (acc ++ [y]))) else Nx H3) := by
  refine lc_it w (fun i H => ∃ acc, H D = some (.lst acc) ∧ I i acc H) ⟨[], upd_same, h0⟩ (fun i H hi ⟨acc, e, h⟩ => hG i acc H hi e h) (fun i x H H' hi ⟨acc, e, h⟩ y => ?_) (fun H ⟨acc, e, h⟩ => hd acc H e h)
  refine mg _ _ _ _ _ (fun σ2 H2 ⟨h1, h2⟩ => ⟨h1, mtt _ _ _ _ (fun b H3 h3 => ?_) h2⟩) (hs i x acc H H' hi e h y)
  cases b with
  | true => exact mte _ _ _ _ (fun y H4 ⟨p, q, r⟩ => ⟨acc, p, q, acc ++ [y], upd_same, r⟩) h3
  | false => exact ⟨acc, h3⟩
end
section
variable {prog : Program} {w : World} {A : Around} {E : Value → Shared → Prop} {s : Shared} {K : PySem.W.Frag} {x C : Addr} {ox : Obj} {od : Option Obj}
theorem ifBound_objNe {M : Model} {args : List Value} {Q : Option Value → Shared → Prop} (X : K.In s.heap) (I : PySem.W.InstAt s.heap x ox C od) (hs : PySem.W.findIn K (.ref C) "__ne__" = some (some (.builtin "object.__ne__")))
    (h : wpAny M A (call (.builtin "object.__ne__") (.ref x :: args)) (fun v => Q (some v)) E s) : wpAny M A (callSpecialIfBound? (.ref x) "__ne__" args) Q E s := by
  simp only [callSpecialIfBound?, bindSpecialIfBound?]
  refine wpAny_holding (wpAny_bind (wpAny_bind (wpAny_bind (I.type.here ((PySem.W.looks_findIn X hs).here ?_)))))
  refine wpAny_bind (wpAny_askSetting (wpAny_ite ?_))
  have fin : wpAny M A (call (.builtin "object.__ne__") ([.ref x] ++ args) >>= fun v => pure (some v)) Q E s := wpAny_bind (wpAny_mono h (fun v s' h' => wpAny_pure h') fun _ _ h' => h')
  split
  · exact wpAny_bind (wpAny_of_eq (F.cmp_object.ne.bind _) (wpAny_pure (by exact fin)))
  · exact wpAny_tryCatch (wpAny_bind (wpAny_of_eq (F.cmp_object.ne.bind _) (wpAny_pure (by exact fin))))
theorem ne_entry {f b : Addr} {Q : Fin → Shared → Prop} (hu : A.units < cLine) (X : K.In s.heap) (I : PySem.W.InstAt s.heap x ox C od) (hs : PySem.W.findIn K (.ref C) "__eq__" = some (some (.ref f))) (hf : PySem.W.isFn K (.ref f) = true)
    (h : codeAny (model prog w) A (.call (.ref f) ⟨[.ref x, .ref b], []⟩) (fun r s' => match r with | .ok (.ret v) => ∃ r, v = .bool r ∧ Q (.done (.ret (.bool (!r)))) s' | .ok _ => False | .error e => E e s') s) :
    wpAny (model prog w) A (Builtin.«object.__ne__» ⟨[.ref x, .ref b], []⟩) Q E s := by
  unfold Builtin.«object.__ne__»
  repeat (first | with_reducible refine wpAny_cRoomFor hu ?_ | with_reducible refine PySem.W.ifBound_K X I hs hf ?_ | wp_step)
  refine codeAny_mono h fun r s' hv => ?_
  match r, hv with
  | .ok (.ret v), ⟨r, e, q⟩ =>
    subst e
    dsimp only
    refine wpAny_bind (wpAny_truthy_bool ?_)
    exact wpAny_pure q
  | .error e, hv => exact hv
theorem rc_ne {f b : Addr} {Q : Value → Shared → Prop} (hu : A.units + 1 < cLine) (X : K.In s.heap) (I : PySem.W.InstAt s.heap x ox C od) {oy : Obj} {od' : Option Obj} (J : PySem.W.InstAt s.heap b oy C od') (hn : PySem.W.findIn K (.ref C) "__ne__" = some (some (.builtin "object.__ne__")))
    (hs : PySem.W.findIn K (.ref C) "__eq__" = some (some (.ref f))) (hm : PySem.W.mroIn K C (.type "object") = some true) (hf : PySem.W.isFn K (.ref f) = true)
    (h : codeAny (model prog w) A.in1 (.call (.ref f) ⟨[.ref x, .ref b], []⟩) (fun r s' => match r with | .ok (.ret v) => ∃ r, v = .bool r ∧ Q (.bool (!r)) s' | .ok _ => False | .error e => E e s') s) : wpAny (model prog w) A (richCompare .NotEq (.ref x) (.ref b)) Q E s := by
  have hu0 : A.units < cLine := Nat.lt_of_succ_lt hu
  have one : wpAny (model prog w) A (tryCompare (.ref x) "__ne__" (.ref b)) (fun r s' => ∃ v, r = some v ∧ Q v s') E s := by
    unfold tryCompare
    refine wpAny_bind (ifBound_objNe X I hn ?_)
    refine wpAny_call (codeAny_call_builtin F.cmp_object.ne.plain F.cmpEntry_ne (PySem.W.check_slot F.cmpKind_ne F.cmpSplit_ne (I.type.andThen (PySem.W.looks_mroIn X hm)) (F.cmpArgs_ne _ _) ?_))
    refine ne_entry (A := A.in1) hu X I hs hf (codeAny_mono h fun r s' hv => ?_)
    match r, hv with
    | .ok (.ret v), ⟨r, e, q⟩ =>
      subst e
      exact ⟨r, rfl, wpAny_pure ⟨_, rfl, q⟩⟩
    | .error e, hv => exact hv
  unfold richCompare
  simp only [oneThing_ref, cmpInfo_NotEq]
  refine wpAny_holding (wpAny_bind (wpAny_cRoomFor hu0 ?_))
  refine wpAny_bind (I.type.here (wpAny_bind (J.type.here ?_)))
  simp only [bne_self_eq_false, Bool.false_eq_true, if_false]
  refine wpAny_bind (wpAny_pure ?_)
  simp only [Bool.false_eq_true, if_false]
  refine wpAny_bind (wpAny_mono one (fun r s' z => ?_) fun _ _ e => e)
  obtain ⟨v, rfl, hq⟩ := z
  exact wpAny_pure hq
end
section
variable {X : Cx} {CX : CXT} {C f : Addr} {fd : FuncData} {ps : List Str} {sp : Sp} {E : XK} {n : Nat}
def rNeO (C : Addr) (sp : Sp) (E : XK) : R2 := fun x y H Q => ∃ a b dx dy fs gs, x = .ref a ∧ y = .ref b ∧ H a = some (.ins C dx fs) ∧ H b = some (.ins C dy gs) ∧ sp [.ref a, .ref b] H (fun v H' => ∃ r, v = .bl r ∧ Q (.bl (!r)) H') E
theorem op_neOwn (F : FnOk X.prog X.w X.K X.mg X.base CX n f fd ps sp) (hn : PySem.W.findIn X.K (.ref C) "__ne__" = some (some (.builtin "object.__ne__"))) (hs : PySem.W.findIn X.K (.ref C) "__eq__" = some (some (.ref f)))
    (hm : PySem.W.mroIn X.K C (.type "object") = some true) (hf : PySem.W.isFn X.K (.ref f) = true) (hb : Binds X.K fd ps []) (hx : Passes CX X E) (hr : Room (n + 1) X.A) : OpR X (compareOp .NotEq) (rNeO C sp E) := by
  intro pins s σ H x y u v Q I rx ry d
  obtain ⟨a, b, dx, dy, fs, gs, rfl, rfl, ha, hb', hsp⟩ := d
  cases rx
  cases ry
  obtain ⟨mA, J, _⟩ := ins_get I.hok ha
  obtain ⟨mB, J', _⟩ := ins_get I.hok hb'
  obtain ⟨od, J, _⟩ := J.look
  obtain ⟨od', J', _⟩ := J'.look
  refine rc_ne (hu_of hr) I.kIn J J' hn hs hm hf ?_
  have e0 : Env0 X.prog X.w X.K X.mg X.base X.A.in1 X.stack s H := by
    have e := I.env0
    exact ⟨e.frames, e.mod, e.bs, e.bsz, e.funs, e.frf, e.hok, e.bare⟩
  have hl := F.len _ _ _ _ hsp
  have r2 : Vals [V.ref a, V.ref b] [Value.ref a, Value.ref b] := .cons rfl (.cons rfl .nil)
  refine (codeAny_mono (F.run X.A.in1 X.stack s H ⟨[.ref a, .ref b], []⟩ [.ref a, .ref b] [.ref a, .ref b] _ E hr.in1 e0 (by
    have := hb s [.ref a, .ref b] I.kIn (by simpa using hl)
    simpa using this) r2 hsp) fun r s' hq => ?_)
  cases r with
  | error e => exact hx pins σ H s e s' I hq
  | ok fl =>
    cases fl with
    | ret w =>
      obtain ⟨z, H', I', rz, r, ez, ex⟩ := I.after hq
      subst ez
      cases rz
      exact ⟨r, rfl, .bl (!r), H', I', rfl, ex⟩
    | next => exact False.elim hq
    | brk => exact False.elim hq
    | cont => exact False.elim hq
end
structure CSta (K : PySem.W.Frag) (C : Addr) (mc : Value) (m : Str) (p g : Addr) : Prop where
  rd : PySem.W.readsIn K C mc = true
  ga : PySem.W.specialIn K (.ref C) "__getattribute__" = some (some (.builtin "type.__getattribute__"))
  at_ : PySem.W.findCls K (.ref C) mc m = some (.get (.builtin "staticmethod.__get__") (.ref p) .none (.ref C))
  rc : ∃ rest, PySem.W.recIn K p "staticmethod" = some (.ref g :: rest)
  kp : PySem.W.keepIn K (.ref g) = true
section
variable {X : Cx} {CX : CXT} {k : Nat} {C p g : Addr} {mc : Value} {sp : Sp} {E : XK} {o e : Expr} {es : List Expr} {m : Str} {pos apos : Pos} {ta : TE} {t : TA} {pl : Sem Bool} {fd : FuncData} {ps : List Str} {dvs : List V} {ds : List Value}
def tSta (C : Addr) (sp : Sp) (E : XK) (ta : TE) (t : TA) : TE := fun σ H Q => ta σ H fun x H1 => x = .ref C ∧ t σ H1 fun vs H2 => sp vs H2 Q E
theorem pe_sta (he : PE X o ta) (c : CSta X.K C mc m p g) (F : FnOk X.prog X.w X.K X.mg X.base CX k g fd ps sp) (hr : Room k X.A) (hb : Binds X.K fd ps []) (hx : Passes CX X E) (ha : PA X (e :: es) t)
    (hst : starEach (e :: es) X.env = (false, eval e X.env) :: starEach es X.env := by rfl) (hpl : (backTo pos (starEach es X.env)).any (·.1) = false := by rfl)
    (ht : eval (.Call (.Attribute o m apos) (e :: es) [] pos) X.env = (do
      let ov ← eval o X.env
      standAt apos.atName
      let (f, first) ← holding [ov] (getMethod ov m pl)
      callWith pos f first (backTo pos (starEach (e :: es) X.env)) (backToKw pos (keywordEach [] X.env))) := by rfl) :
    PE X (.Call (.Attribute o m apos) (e :: es) [] pos) (tSta C sp E ta t) := by
  refine ⟨fun pins s σ H Q I h => ?_⟩
  refine PySem.W.methodCall_KW (pl := pl) (thn (he.run pins s σ H _ I h) fun u s1 ⟨x, H1, I1, rx, ex, q⟩ => ?_) ht
  subst ex
  obtain rfl : u = Value.ref C := rx
  obtain ⟨rest, hp⟩ := c.rc
  refine PySem.W.method_cls I1.kIn c.ga (PySem.W.cls_bind I1.kIn c.rd c.at_ (wpAny_call (PySem.W.sm_get (s := { s1 with toks := s1.toks + 1 }) I1.kIn hp (PySem.W.handed_on rfl ?_))))
  refine PySem.W.callWith_K (first := []) (h₀ := X.base) I.ok.mod.kin c.kp (thn (ha.run pos pins _ σ H1 _ (I1.tok _) q) fun us s2 ⟨vs, H2, I2, r, q2⟩ => ⟨I2.kIn, ?_⟩) hst hpl
  exact run_fn (us := us) (vs := vs) F hr hb .nil hx I2 r (by rw [List.append_nil]; exact q2)
end
end Z
set_option maxRecDepth 100000
set_option maxHeartbeats 4000000
namespace Z
open PySem PySem.Spec PyProof.Rows L2
def tx (l : List Nat) : Str := ⟨l.toArray⟩
def ls (s : Str) : List Nat := s.cps.toList
theorem tx_ls (s : Str) : tx (ls s) = s := by cases s; simp [tx, ls]
theorem ls_tx (l : List Nat) : ls (tx l) = l := by simp [tx, ls]
theorem ls_app (a b : Str) : ls (a ++ b) = ls a ++ ls b := by
  show (a.cps ++ b.cps).toList = _
  simp [ls]
theorem ls_len (s : Str) : (ls s).length = s.length := by simp [ls, Str.length]
theorem tx_len (l : List Nat) : (tx l).length = l.length := by simp [tx, Str.length]
theorem len_app (a b : Str) : (a ++ b).length = a.length + b.length := by rw [← ls_len, ls_app, List.length_append, ls_len, ls_len]
theorem str_ext {a b : Str} (h : ls a = ls b) : a = b := by rw [← tx_ls a, ← tx_ls b, h]
def isLB (c : Nat) : Bool := decide (97 ≤ c) && decide (c ≤ 122)
def isDB (c : Nat) : Bool := decide (48 ≤ c) && decide (c ≤ 57)
def sLet : Str := "abcdefghijklmnopqrstuvwxyz"
def sDig : Str := "0123456789"
theorem ls_let : ls sLet = List.range' 97 26 := by decide +kernel
theorem ls_dig : ls sDig = List.range' 48 10 := by decide +kernel
theorem mem_let (c : Nat) : decide (c ∈ ls sLet) = isLB c := by
  rw [ls_let]
  unfold isLB
  rw [← Bool.decide_and]
  congr 1
  rw [List.mem_range'_1]
  apply propext
  omega
theorem mem_dig (c : Nat) : decide (c ∈ ls sDig) = isDB c := by
  rw [ls_dig]
  unfold isDB
  rw [← Bool.decide_and]
  congr 1
  rw [List.mem_range'_1]
  apply propext
  omega
theorem mem_let' (c : Nat) : decide (c ∈ ("abcdefghijklmnopqrstuvwxyz" : Str).cps.toList) = isLB c := mem_let c
theorem mem_dig' (c : Nat) : decide (c ∈ ("0123456789" : Str).cps.toList) = isDB c := mem_dig c
theorem isLB_iff {c : Nat} : isLB c = true ↔ isLet c := by simp [isLB, isLet]
def wordB (l : List Nat) : Bool := (decide (1 ≤ l.length) && decide (l.length ≤ 8)) && l.all isLB
theorem wordB_iff {w : Str} : wordB (ls w) = true ↔ Word w := by
  unfold wordB Word
  rw [ls_len, Bool.and_eq_true, Bool.and_eq_true, decide_eq_true_eq, decide_eq_true_eq, List.all_eq_true]
  exact ⟨fun ⟨⟨a, b⟩, c⟩ => ⟨a, b, fun x hx => isLB_iff.mp (c x hx)⟩, fun ⟨a, b, c⟩ => ⟨⟨a, b⟩, fun x hx => isLB_iff.mpr (c x hx)⟩⟩
def plp (f : List Nat → Option (Tr × List Nat)) : List Nat → List Nat → Option (List Tr × List Nat)
  | [], r => some ([], r)
  | s :: ss, r => match f r with
    | some (t, c :: q) => if c = s then (match plp f ss q with
      | some (ts, z) => some (t :: ts, z)
      | none => none) else none
    | _ => none
def plx : Option (List Tr × List Nat) → Option (Tr × List Nat)
  | some ([a, b, c, e], z) => some (.cho a b c e, z)
  | _ => none
def pl : Nat → List Nat → Option (Tr × List Nat)
  | 0, _ => none
  | d + 1, [] => none
  | d + 1, c :: r =>
    if isDB c = true then some (.con ((c : Int) - 48), r)
    else if wordB ((c :: r).takeWhile isLB) = true then some (.var (tx ((c :: r).takeWhile isLB)), (c :: r).dropWhile isLB)
    else if c ≠ 40 ∨ d = 0 then none
    else plx (plp (pl d) [61, 63, 58, 41] r)
theorem plp_len {f : List Nat → Option (Tr × List Nat)} : ∀ {ss r ts z}, plp f ss r = some (ts, z) → ts.length = ss.length
  | [], r, ts, z, h => by
    simp [plp] at h
    rw [h.1]
    rfl
  | s :: ss, r, ts, z, h => by
    unfold plp at h
    split at h
    · rename_i t c q e
      split at h
      · split at h
        · rename_i us y e2
          cases h
          rw [List.length_cons, List.length_cons, plp_len e2]
        · cases h
      · cases h
    · cases h
def planOf (z : Str) : Option Tr := match pl 3 (ls z) with
  | some (t, []) => some t
  | _ => none
def Ends (r : List Nat) : Prop := ∀ c q, r = c :: q → isLB c = false
theorem take_word {l r : List Nat} (h : ∀ c ∈ l, isLB c = true) (e : Ends r) : (l ++ r).takeWhile isLB = l ∧ (l ++ r).dropWhile isLB = r := by
  induction l with
  | nil =>
    cases r with
    | nil => exact ⟨rfl, rfl⟩
    | cons c q =>
      have := e c q rfl
      simp [this]
  | cons c l ih =>
    have h1 := h c List.mem_cons_self
    have := ih fun x hx => h x (List.mem_cons_of_mem _ hx)
    simp only [List.cons_append, List.takeWhile_cons, List.dropWhile_cons, h1, if_true]
    exact ⟨congrArg (c :: ·) this.1, this.2⟩
theorem con_text {n : Int} (h : 0 ≤ n ∧ n ≤ 9) : ls (Tr.con n).text = [48 + n.toNat] := by
  have : n = 0 ∨ n = 1 ∨ n = 2 ∨ n = 3 ∨ n = 4 ∨ n = 5 ∨ n = 6 ∨ n = 7 ∨ n = 8 ∨ n = 9 := by omega
  rcases this with rfl | rfl | rfl | rfl | rfl | rfl | rfl | rfl | rfl | rfl <;> decide +kernel
theorem cho_text (a b c e : Tr) : ls (Tr.cho a b c e).text = 40 :: (ls a.text ++ (61 :: (ls b.text ++ (63 :: (ls c.text ++ (58 :: (ls e.text ++ [41]))))))) := by
  show ls (Tr.str "(" ++ a.text ++ Tr.str "=" ++ b.text ++ Tr.str "?" ++ c.text ++ Tr.str ":" ++ e.text ++ Tr.str ")") = _
  simp only [ls_app]
  have h1 : ls (Tr.str "(") = [40] := by decide +kernel
  have h2 : ls (Tr.str "=") = [61] := by decide +kernel
  have h3 : ls (Tr.str "?") = [63] := by decide +kernel
  have h4 : ls (Tr.str ":") = [58] := by decide +kernel
  have h5 : ls (Tr.str ")") = [41] := by decide +kernel
  rw [h1, h2, h3, h4, h5]
  simp
theorem pl_text : ∀ (t : Tr) (d : Nat) (r : List Nat), t.Ok → t.deep ≤ d → Ends r → pl d (ls t.text ++ r) = some (t, r)
  | .con n, d, r, ok, hd, e => by
    obtain ⟨d, rfl⟩ : ∃ k, d = k + 1 := ⟨d - 1, by have := deep_pos (.con n); omega⟩
    have ok' : 0 ≤ n ∧ n ≤ 9 := ok
    rw [con_text ok']
    show pl (d + 1) ((48 + n.toNat) :: r) = _
    unfold pl
    have : isDB (48 + n.toNat) = true := by
      unfold isDB
      simp
      omega
    rw [if_pos this]
    have z : ((48 + n.toNat : Nat) : Int) - 48 = n := by omega
    rw [z]
  | .var w, d, r, ok, hd, e => by
    obtain ⟨d, rfl⟩ : ∃ k, d = k + 1 := ⟨d - 1, by have := deep_pos (.var w); omega⟩
    have ok' : Word w := ok
    have wb := wordB_iff.mpr ok'
    have al : ∀ c ∈ ls w, isLB c = true := fun c hc => isLB_iff.mpr (ok'.2.2 c hc)
    obtain ⟨t1, t2⟩ := take_word al e
    show pl (d + 1) (ls w ++ r) = _
    have ne : 1 ≤ (ls w).length := by rw [ls_len]; exact ok'.1
    generalize hl : ls w = l at *
    cases l with
    | nil => simp at ne
    | cons c l =>
      have hc := al c List.mem_cons_self
      show pl (d + 1) (c :: (l ++ r)) = _
      unfold pl
      have nd : isDB c = false := by
        unfold isLB at hc
        unfold isDB
        simp at hc ⊢
        omega
      rw [if_neg (by rw [nd]; decide)]
      have t1' : (c :: (l ++ r)).takeWhile isLB = c :: l := t1
      have t2' : (c :: (l ++ r)).dropWhile isLB = r := t2
      rw [t1', t2', if_pos wb, ← hl, tx_ls]
  | .cho a b c f, d, r, ok, hd, e => by
    obtain ⟨oa, ob, oc, oe⟩ : a.Ok ∧ b.Ok ∧ c.Ok ∧ f.Ok := ok
    have hd' : 1 + max (max a.deep b.deep) (max c.deep f.deep) ≤ d := hd
    obtain ⟨d, rfl⟩ : ∃ k, d = k + 1 := ⟨d - 1, by omega⟩
    rw [cho_text]
    have pa := deep_pos a
    have E : ∀ s : Nat, isLB s = false → ∀ q : List Nat, Ends (s :: q) := fun s hs q c q' h => by
      cases h
      exact hs
    have ha := pl_text a d (61 :: (ls b.text ++ (63 :: (ls c.text ++ (58 :: (ls f.text ++ (41 :: r))))))) oa (by omega) (E _ (by decide) _)
    have hb := pl_text b d (63 :: (ls c.text ++ (58 :: (ls f.text ++ (41 :: r))))) ob (by omega) (E _ (by decide) _)
    have hc := pl_text c d (58 :: (ls f.text ++ (41 :: r))) oc (by omega) (E _ (by decide) _)
    have he := pl_text f d (41 :: r) oe (by omega) (E _ (by decide) _)
    simp only [List.cons_append, List.append_assoc, List.nil_append]
    unfold pl
    have h1 : isDB 40 = false := by decide
    have h2 : ∀ q : List Nat, (40 :: q).takeWhile isLB = [] := fun q => by
      have : isLB 40 = false := by decide
      simp [this]
    rw [if_neg (by rw [h1]; decide), h2, if_neg (by decide), if_neg (by omega)]
    simp only [plp, ha, hb, hc, he, plx, if_true]
theorem plan_text {t : Tr} (ok : t.Ok) (hd : t.deep ≤ 3) : planOf t.text = some t := by
  unfold planOf
  have := pl_text t 3 [] ok hd (fun c q h => by cases h)
  rw [List.append_nil] at this
  rw [this]
def tB : Nat → Nat
  | 0 => 0
  | d + 1 => 4 * tB d + 8
theorem text_len : ∀ (d : Nat) (t : Tr), t.Ok → t.deep ≤ d → t.text.length ≤ tB d
  | 0, t, _, hd => by have := deep_pos t; omega
  | d + 1, .con n, ok, hd => by
    rw [← ls_len, con_text ok]
    show 1 ≤ 4 * tB d + 8
    omega
  | d + 1, .var w, ok, hd => by
    have ok' : Word w := ok
    show w.length ≤ 4 * tB d + 8
    have := ok'.2.1
    omega
  | d + 1, .cho a b c e, ok, hd => by
    obtain ⟨oa, ob, oc, oe⟩ : a.Ok ∧ b.Ok ∧ c.Ok ∧ e.Ok := ok
    have hd' : 1 + max (max a.deep b.deep) (max c.deep e.deep) ≤ d + 1 := hd
    have h1 := text_len d a oa (by omega)
    have h2 := text_len d b ob (by omega)
    have h3 := text_len d c oc (by omega)
    have h4 := text_len d e oe (by omega)
    rw [← ls_len, cho_text]
    simp only [List.length_cons, List.length_append, ls_len, List.length_nil]
    show _ ≤ 4 * tB d + 8
    omega
theorem text_small {t : Tr} (ok : t.Ok) (hd : t.deep ≤ 3) : t.text.length ≤ 168 := text_len 3 t ok hd
def Tr.has (p : Tr) : Tr → Bool
  | .con n => decide (p = .con n)
  | .var w => decide (p = .var w)
  | .cho a b c e => decide (p = .cho a b c e) || (p.has a || (p.has b || (p.has c || p.has e)))
theorem show_small : ∀ (t : Tr), t.Ok → t.d.showable = true
  | .con n, ok => by
    have ok' : 0 ≤ n ∧ n ≤ 9 := ok
    have : n.natAbs.log2 < 1920 := Nat.lt_of_le_of_lt (Nat.log2_le_self _) (by omega)
    simp [Tr.d, PyData.showable, this]
  | .var w, ok => by simp [Tr.d, PyData.showable]
  | .cho a b c e, ok => by
    obtain ⟨oa, ob, oc, oe⟩ : a.Ok ∧ b.Ok ∧ c.Ok ∧ e.Ok := ok
    simp [Tr.d, PyData.showable, PyData.showableAll, show_small a oa, show_small b ob, show_small c oc, show_small e oe]
def sB : Nat → Nat
  | 0 => 0
  | d + 1 => 4 * sB d + 90
theorem shown_len : ∀ (d : Nat) (t : Tr), t.Ok → t.deep ≤ d → t.d.shown.length ≤ sB d
  | 0, t, _, hd => by have := deep_pos t; omega
  | d + 1, .con n, ok, hd => by
    have : (Tr.con n).d.shown = (Tr.con n).text := by
      unfold Tr.d
      simp only [PyData.shown]
      rfl
    rw [this, ← ls_len, con_text ok]
    show 1 ≤ 4 * sB d + 90
    omega
  | d + 1, .var w, ok, hd => by
    have ok' : Word w := ok
    have : (Tr.var w).d.shown = reprText w := by
      unfold Tr.d
      simp only [PyData.shown]
    rw [this]
    have h := PySem.StrLaws.reprText_len w fun c hc => by
      have := (ok'.2.2 c hc).2
      exact Nat.lt_of_le_of_lt this (by decide)
    have := ok'.2.1
    show _ ≤ 4 * sB d + 90
    omega
  | d + 1, .cho a b c e, ok, hd => by
    obtain ⟨oa, ob, oc, oe⟩ : a.Ok ∧ b.Ok ∧ c.Ok ∧ e.Ok := ok
    have hd' : 1 + max (max a.deep b.deep) (max c.deep e.deep) ≤ d + 1 := hd
    have h1 := shown_len d a oa (by omega)
    have h2 := shown_len d b ob (by omega)
    have h3 := shown_len d c oc (by omega)
    have h4 := shown_len d e oe (by omega)
    have : (Tr.cho a b c e).d.shown = tupleText [a.d.shown, b.d.shown, c.d.shown, e.d.shown] := by
      conv => lhs; unfold Tr.d
      simp only [PyData.shown, PyData.shownAll]
    rw [this]
    refine Nat.le_trans (tupleText_len_le _) ?_
    simp only [List.map_cons, List.map_nil, List.sum_cons, List.sum_nil, List.length_cons, List.length_nil]
    show _ ≤ 4 * sB d + 90
    omega
theorem shown_small {t : Tr} (ok : t.Ok) (hd : t.deep ≤ 3) : t.d.shown.length ≤ sizeLine := Nat.le_trans (shown_len 3 t ok hd) (by decide)
end Z
set_option maxRecDepth 100000
set_option maxHeartbeats 4000000
namespace Z
open PySem PySem.Spec PyProof.Rows L2
section
variable {X : Cx} {CX : CXT} {k : Nat} {f C : Addr} {fd : FuncData} {ps : List Str} {sp : Sp} {E : L2.St → XK} {x m : Str} {p pos apos : Pos} {e o : Expr} {es : List Expr} {ta : TE} {t : TA}
def tMethX (C : Addr) (m : Str) (sp : Sp) (E : L2.St → XK) (ta : TE) (t : TA) : TE := fun σ H Q => ta σ H fun x H1 => ∃ a dx fs, x = .ref a ∧ H1 a = some (.ins C dx fs) ∧ fs.lookup m = none ∧ t σ H1 fun vs H2 => sp (x :: vs) H2 Q (E σ)
theorem pe_methX {pl : Sem Bool} (he : PE X o ta) (c : Cls X.K C) (hm : Meth X.K C m f) (F : FnOk X.prog X.w X.K X.mg X.base CX k f fd ps sp) (hr : Room k X.A) (hb : Binds X.K fd ps []) (hx : ∀ σ, PassesAt CX X σ (E σ)) (ha : PA X (e :: es) t)
    (hst : starEach (e :: es) X.env = (false, eval e X.env) :: starEach es X.env := by rfl) (hpl : (backTo pos (starEach es X.env)).any (·.1) = false := by rfl)
    (ht : eval (.Call (.Attribute o m apos) (e :: es) [] pos) X.env = (do
      let ov ← eval o X.env
      standAt apos.atName
      let (f, first) ← holding [ov] (getMethod ov m pl)
      callWith pos f first (backTo pos (starEach (e :: es) X.env)) (backToKw pos (keywordEach [] X.env))) := by rfl) :
    PE X (.Call (.Attribute o m apos) (e :: es) [] pos) (tMethX C m sp E ta t) := by
  refine ⟨fun pins s σ H Q I h => ?_⟩
  refine PySem.W.methodCall_KW (pl := pl) (thn (he.run pins s σ H _ I h) fun u s1 ⟨x, H1, I1, rx, a, dx, fs, ex, ea, l, q⟩ => ?_) ht
  subst ex
  obtain rfl : u = Value.ref a := rx
  refine getmeth_ok I1 ea c hm l ?_
  refine PySem.W.callWith_K (first := [.ref a]) (h₀ := X.base) I.ok.mod.kin hm.kp (thn (ha.run pos pins s1 σ H1 _ I1 q) fun us s2 ⟨vs, H2, I2, r, q2⟩ => ⟨I2.kIn, ?_⟩) hst hpl
  exact run_fnS (us := .ref a :: us) (vs := .ref a :: vs) F hr hb (hx σ) I2 (.cons rfl r) q2
theorem pe_gs {s : Str} (h : ∃ t, X.mg x = some (.str s t)) (hg : Gl X x := by rfl) (hd : (x == ("__debug__" : Str)) = false := by decide) : PE X (.Name x pos) (tC (.str s)) := by
  obtain ⟨t, h⟩ := h
  exact pe_glob hg h ⟨t, rfl⟩ hd
theorem pe_gi {s : Int} (h : ∃ t, X.mg x = some (.int s t)) (hg : Gl X x := by rfl) (hd : (x == ("__debug__" : Str)) = false := by decide) : PE X (.Name x pos) (tC (.int s)) := by
  obtain ⟨t, h⟩ := h
  exact pe_glob hg h ⟨t, rfl⟩ hd
theorem pe_gr {a : Addr} (h : X.mg x = some (.ref a)) (hg : Gl X x := by rfl) (hd : (x == ("__debug__" : Str)) = false := by decide) : PE X (.Name x pos) (tC (.ref a)) := pe_glob hg h rfl hd
end
theorem tyT {K : PySem.W.Frag} {H : Hp} {p : Addr} {xs : List V} (h : SqT K H p xs) : TyX K H (.ref p) (.type "tuple") := by
  rcases h with (h | ⟨o, h⟩) | ⟨o, vs, n, h, c, _⟩
  · exact .base (.tup h)
  · exact .fTuple h
  · exact .kTuple h c
def Tr.isT : Tr → Bool
  | .cho _ _ _ _ => true
  | _ => false
theorem k_tt : kitB "tuple" "tuple" = some true := by decide +kernel
theorem k_it : kitB "int" "tuple" = some false := by decide +kernel
theorem k_st : kitB "str" "tuple" = some false := by decide +kernel
theorem k_ii : kitB "int" "int" = some true := by decide +kernel
theorem k_ib : kitB "int" "bool" = some false := by decide +kernel
theorem k_si : kitB "str" "int" = some false := by decide +kernel
theorem k_ss : kitB "str" "str" = some true := by decide +kernel
theorem isiTr {K : PySem.W.Frag} {H : Hp} {t : Tr} {v : V} {Q : VK} (h : Dp K H v t.d) (q : Q (.bl t.isT) H) : rIsi K [v, .ty "tuple"] H Q ∨ rIsiT K [v, .ty "tuple"] H Q := by
  cases t with
  | con n =>
    obtain rfl := tr_con h
    exact isiTy (.base (.int n)) k_it q
  | var w =>
    obtain rfl := tr_var h
    exact isiTy (.base (.str w)) k_st q
  | cho a b c e =>
    obtain ⟨p, v1, v2, v3, v4, rfl, sq, _⟩ := tr_cho h
    exact isiTy (tyT sq) k_tt q
def Tr.Fine (t : Tr) : Prop := t.Ok ∧ t.deep ≤ 60
theorem word_strOk {w : Str} (h : Word w) : PyData.strOk w = true := by
  unfold PyData.strOk
  rw [← Array.all_toList, List.all_eq_true]
  intro c hc
  have := (h.2.2 c hc).2
  exact decide_eq_true (by omega)
theorem canLay_tr : ∀ t : Tr, t.Ok → PyData.canLay0 t.d = true
  | .con n, _ => by simp [Tr.d, PyData.canLay0]
  | .var w, ok => by
    have := word_strOk (show Word w from ok)
    simp [Tr.d, PyData.canLay0, this]
  | .cho a b c e, ok => by
    obtain ⟨oa, ob, oc, oe⟩ : a.Ok ∧ b.Ok ∧ c.Ok ∧ e.Ok := ok
    simp [Tr.d, PyData.canLay0, PyData.canLayAll0, canLay_tr a oa, canLay_tr b ob, canLay_tr c oc, canLay_tr e oe]
theorem shaped_tr {t : Tr} (h : t.Fine) : SeqAt.shaped t.d = true := by
  have h1 := canLay_tr t h.1
  have h2 := d_depth t
  have h3 := h.2
  unfold SeqAt.shaped
  rw [h1, Bool.true_and]
  exact decide_eq_true (by omega)
section
variable {X : Cx}
def rEqE (K : PySem.W.Frag) (neg : Bool) : R2 := fun x y H Q => ∃ a b xs, x = .ref a ∧ y = .ref b ∧ SqL K H a xs ∧ SqL K H b [] ∧ Q (.bl (if neg then !xs.isEmpty else xs.isEmpty)) H
theorem op_eqE (hu : X.A.units < cLine) : OpR X (compareOp .Eq) (rEqE X.K false) := by
  intro pins s σ H x y u v Q I rx ry ⟨a, b, xs, e1, e2, h1, h2, q⟩
  subst e1; subst e2
  cases rx
  cases ry
  obtain ⟨its, r, p, _⟩ := I.list h1
  obtain ⟨its2, r2, p2, _⟩ := I.list h2
  cases r2
  have hl : s.heap.IsList a its.toArray := by obtain ⟨o, n, e1, e2, e3, e4⟩ := p; exact ⟨_, e1, e2, n, e4⟩
  have hb : s.heap.IsList b #[] := by obtain ⟨o, n, e1, e2, e3, e4⟩ := p2; exact ⟨_, e1, e2, n, e4⟩
  cases r with
  | nil => exact SeqAt.RcAt.lists (e := fun _ => true) hl hb rfl hu (fun j h1 _ => absurd h1 (Nat.not_lt_zero _)) _ _ _ _ ⟨.bl true, H, I, rfl, q⟩
  | cons r1 r2 => exact SeqAt.RcAt.lists_lengths hl hb (by simp) hu _ _ _ _ ⟨.bl false, H, I, rfl, q⟩
theorem op_neE (hu : X.A.units < cLine) : OpR X (compareOp .NotEq) (rEqE X.K true) := by
  intro pins s σ H x y u v Q I rx ry ⟨a, b, xs, e1, e2, h1, h2, q⟩
  subst e1; subst e2
  cases rx
  cases ry
  obtain ⟨its, r, p, _⟩ := I.list h1
  obtain ⟨its2, r2, p2, _⟩ := I.list h2
  cases r2
  have hl : s.heap.IsList a its.toArray := by obtain ⟨o, n, e1, e2, e3, e4⟩ := p; exact ⟨_, e1, e2, n, e4⟩
  have hb : s.heap.IsList b #[] := by obtain ⟨o, n, e1, e2, e3, e4⟩ := p2; exact ⟨_, e1, e2, n, e4⟩
  cases r with
  | nil => exact SeqAt.RcNeAt.lists (e := fun _ => true) hl hb rfl hu (fun j h1 _ => absurd h1 (Nat.not_lt_zero _)) _ _ _ _ ⟨.bl false, H, I, rfl, q⟩
  | cons r1 r2 => exact SeqAt.RcNeAt.lists_lengths hl hb (by simp) hu _ _ _ _ ⟨.bl true, H, I, rfl, q⟩
structure rEqX (K : PySem.W.Frag) (x y : V) (H : Hp) (Q : VK) : Prop where
  h : rEq x y H Q ∨ rEqE K false x y H Q ∨ rEqD K x y H Q
structure rNeX (K : PySem.W.Frag) (x y : V) (H : Hp) (Q : VK) : Prop where
  h : rNe x y H Q ∨ rEqE K true x y H Q ∨ rNeD K x y H Q
theorem op_eqX {k : Nat} {K : PySem.W.Frag} (hr : Room k X.A) (hk : X.K = K := by rfl) : OpR X (compareOp .Eq) (rEqX K) := by
  subst hk
  exact OpR.box (OpR.or op_eq (OpR.or (op_eqE hr.units0) (op_eqD hr.units))) fun _ _ _ _ q => q.h
theorem op_neX {k : Nat} {K : PySem.W.Frag} (hr : Room k X.A) (hk : X.K = K := by rfl) : OpR X (compareOp .NotEq) (rNeX K) := by
  subst hk
  exact OpR.box (OpR.or op_ne (OpR.or (op_neE hr.units0) (op_neD hr.units))) fun _ _ _ _ q => q.h
theorem op_eqU {K : PySem.W.Frag} (hu : X.A.units + 64 < cLine) (hk : X.K = K := by rfl) : OpR X (compareOp .Eq) (rEqX K) := by
  subst hk
  exact OpR.box (OpR.or op_eq (OpR.or (op_eqE (Nat.lt_of_le_of_lt (Nat.le_add_right _ _) hu)) (op_eqD hu))) fun _ _ _ _ q => q.h
structure rIxA (K : PySem.W.Frag) (x y : V) (H : Hp) (Q : VK) : Prop where
  h : rIx K x y H Q
theorem IxR.box {r r' : R2} (h : IxR X r) (e : ∀ x y H Q, r' x y H Q → r x y H Q) : IxR X r' := fun a b pins s σ H x y v u Q I rx ry q => h a b pins s σ H x y v u Q I rx ry (e _ _ _ _ q)
theorem ix_A {K : PySem.W.Frag} (hk : X.K = K := by rfl) : IxR X (rIxA K) := by
  subst hk
  exact IxR.box ix_seq fun _ _ _ _ q => q.h
end
theorem eqI {K : PySem.W.Frag} {H : Hp} {Q : VK} {i j : Int} (q : Q (.bl (decide (i = j))) H) : rEqX K (.int i) (.int j) H Q := ⟨.inl ⟨rfl, by simpa using q⟩⟩
theorem neI {K : PySem.W.Frag} {H : Hp} {Q : VK} {i j : Int} (q : Q (.bl (!decide (i = j))) H) : rNeX K (.int i) (.int j) H Q := ⟨.inl ⟨rfl, by simpa using q⟩⟩
theorem eqS {K : PySem.W.Frag} {H : Hp} {Q : VK} {i j : Str} (q : Q (.bl (decide (i = j))) H) : rEqX K (.str i) (.str j) H Q := ⟨.inl ⟨rfl, by simpa using q⟩⟩
theorem neS {K : PySem.W.Frag} {H : Hp} {Q : VK} {i j : Str} (q : Q (.bl (!decide (i = j))) H) : rNeX K (.str i) (.str j) H Q := ⟨.inl ⟨rfl, by simpa using q⟩⟩
theorem neB {K : PySem.W.Frag} {H : Hp} {Q : VK} {i j : Bool} (q : Q (.bl (!decide (i = j))) H) : rNeX K (.bl i) (.bl j) H Q := ⟨.inl ⟨rfl, by simpa using q⟩⟩
theorem eqT {K : PySem.W.Frag} {H : Hp} {Q : VK} {x y : V} {s t : Tr} (h : Dp K H x s.d) (h' : Dp K H y t.d) (hs : s.Fine) (ht : t.Fine) (q : Q (.bl (decide (s = t))) H) : rEqX K x y H Q :=
  ⟨.inr (.inr ⟨_, _, h, h', shaped_tr hs, shaped_tr ht, by rw [eqv_tr]; exact q⟩)⟩
theorem eqL0 {K : PySem.W.Frag} {H : Hp} {Q : VK} {a b : Addr} {xs : List V} (ha : SqL K H a xs) (hb : H b = some (.lst [])) (q : Q (.bl xs.isEmpty) H) : rEqX K (.ref a) (.ref b) H Q := ⟨.inr (.inl ⟨a, b, xs, rfl, rfl, ha, .inl (.inl hb), q⟩)⟩
theorem neL0 {K : PySem.W.Frag} {H : Hp} {Q : VK} {a b : Addr} {xs : List V} (ha : SqL K H a xs) (hb : H b = some (.lst [])) (q : Q (.bl (!xs.isEmpty)) H) : rNeX K (.ref a) (.ref b) H Q := ⟨.inr (.inl ⟨a, b, xs, rfl, rfl, ha, .inl (.inl hb), q⟩)⟩
theorem atI_nat {α : Type} {xs : List α} {i : Nat} {v : α} (e : xs[i]? = some v) : atI xs (i : Int) = some v := by
  have h := (List.getElem?_eq_some_iff.mp e).1
  unfold atI ixN
  rw [if_pos (Int.natCast_nonneg _), if_pos (Int.ofNat_lt.mpr h)]
  simpa using e
theorem ixL {K : PySem.W.Frag} {H : Hp} {Q : VK} {a : Addr} {xs : List V} {i : Nat} {v : V} (h : SqL K H a xs) (e : xs[i]? = some v) (q : Q v H) : rIxA K (.ref a) (.int i) H Q := ⟨.inl ⟨a, xs, i, v, rfl, rfl, h, atI_nat e, q⟩⟩
theorem ixT {K : PySem.W.Frag} {H : Hp} {Q : VK} {a : Addr} {xs : List V} {i : Nat} {v : V} (h : SqT K H a xs) (e : xs[i]? = some v) (q : Q v H) : rIxA K (.ref a) (.int i) H Q := ⟨.inr (.inl ⟨a, xs, i, v, rfl, rfl, h, atI_nat e, q⟩)⟩
theorem ixS {K : PySem.W.Frag} {H : Hp} {Q : VK} {z : Str} {i : Nat} {c : Nat} (h : z.length ≤ sizeLine) (e : (ls z)[i]? = some c) (q : Q (.str (tx [c])) H) : rIxA K (.str z) (.int i) H Q := ⟨.inr (.inr ⟨z, i, c, rfl, rfl, h, atI_nat e, q⟩)⟩
end Z
set_option maxRecDepth 100000
set_option maxHeartbeats 4000000
namespace Z
open PySem PySem.Spec PyProof.Rows L2
section
variable {X : Cx}
def Flat1 (v : V) : Prop := (∃ s : Str, v = .str s) ∨ ∃ b : Bool, v = .bl b
structure rNeSame (K : PySem.W.Frag) (x y : V) (H : Hp) (Q : VK) : Prop where
  h : ∃ a b xs, x = .ref a ∧ y = .ref b ∧ SqL K H a xs ∧ SqL K H b xs ∧ (∀ v ∈ xs, Flat1 v) ∧ Q (.bl false) H
theorem op_neSame {k : Nat} {K : PySem.W.Frag} (hr : Room k X.A) (hk : X.K = K := by rfl) : OpR X (compareOp .NotEq) (rNeSame K) := by
  subst hk
  intro pins s σ H x y u v Q I rx ry ⟨a, b, xs, e1, e2, h1, h2, fl, q⟩
  subst e1; subst e2
  cases rx
  cases ry
  obtain ⟨its, r, p, _⟩ := I.list h1
  obtain ⟨its2, r2, p2, _⟩ := I.list h2
  have hl : s.heap.IsList a its.toArray := by obtain ⟨o, n, e1, e2, e3, e4⟩ := p; exact ⟨_, e1, e2, n, e4⟩
  have hb : s.heap.IsList b its2.toArray := by obtain ⟨o, n, e1, e2, e3, e4⟩ := p2; exact ⟨_, e1, e2, n, e4⟩
  have hsz : its.toArray.size = its2.toArray.size := by rw [List.size_toArray, List.size_toArray, ← r.length, ← r2.length]
  have := SeqAt.RcNeAt.lists (A := X.A) (e := fun _ => true) hl hb hsz hr.units0 (fun j j1 j2 => by
    have hj : j < xs.length := by rw [r.length]; simpa using j1
    have g : xs[j]? = some xs[j] := by simp [hj]
    obtain ⟨u1, z1, w1⟩ := r.get g
    obtain ⟨u2, z2, w2⟩ := r2.get g
    have q1 : its.toArray[j] = u1 := by
      rw [List.getElem_toArray]
      exact Option.some.inj ((List.getElem?_eq_getElem _).symm.trans z1)
    have q2 : its2.toArray[j] = u2 := by
      rw [List.getElem_toArray]
      exact Option.some.inj ((List.getElem?_eq_getElem _).symm.trans z2)
    rw [q1, q2]
    rcases fl _ (List.getElem_mem hj) with ⟨y, e⟩ | ⟨y, e⟩
    · rw [e] at w1 w2
      obtain ⟨t1, rfl⟩ := w1
      obtain ⟨t2, rfl⟩ := w2
      have := SeqAt.EqAt.str_str (A := X.A.in1) (s := s) y t1 y t2
      rwa [beq_self_eq_true] at this
    · rw [e] at w1 w2
      obtain rfl : u1 = Value.bool y := w1
      obtain rfl : u2 = Value.bool y := w2
      have := SeqAt.EqAt.bool_bool (A := X.A.in1) (s := s) y y
      rwa [beq_self_eq_true] at this) X.prog X.w X.xe
  refine this _ ?_
  refine ⟨.bl false, H, I, ?_, q⟩
  show Value.bool _ = Value.bool false
  congr 1
  simp
theorem neSame {K : PySem.W.Frag} {a b : Addr} {xs : List V} {H : Hp} {Q : VK} (h1 : SqL K H a xs) (h2 : SqL K H b xs) (fl : ∀ v ∈ xs, Flat1 v) (q : Q (.bl false) H) : rNeSame K (.ref a) (.ref b) H Q := ⟨a, b, xs, rfl, rfl, h1, h2, fl, q⟩
theorem fold_cps (l : List (Array Nat)) : ∀ acc : Array Nat, (l.foldl (· ++ ·) acc).toList = acc.toList ++ (l.map Array.toList).flatten := by
  induction l with
  | nil => intro acc; simp
  | cons x l ih => intro acc; rw [List.foldl_cons, ih]; simp
theorem rep_sign (n c : Nat) : (List.replicate n (#[c] : Array Nat)).foldl (· ++ ·) #[] = (tx (List.replicate n c)).cps := by
  apply Array.toList_inj.mp
  rw [fold_cps]
  show _ = ls (tx (List.replicate n c))
  rw [ls_tx]
  induction n with
  | zero => rfl
  | succ n ih =>
    rw [List.replicate_succ, List.map_cons, List.flatten_cons]
    rw [List.replicate_succ]
    simp only [List.nil_append] at ih ⊢
    rw [ih]
    rfl
structure rMulSg (x y : V) (H : Hp) (Q : VK) : Prop where
  h : ∃ (c n : Nat), x = .str (tx [c]) ∧ y = .int (n : Nat) ∧ 2 ≤ n ∧ n ≤ sizeLine ∧ Q (.str (tx (List.replicate n c))) H
theorem op_mulSg : OpR X (binaryOp .Mult) rMulSg := by
  intro pins s σ H x y u v Q I rx ry ⟨c, n, e1, e2, h2, hn, q⟩
  subst e1; subst e2
  obtain ⟨t, rfl⟩ := rx
  obtain ⟨t', rfl⟩ := ry
  have sl := PySem.sizeLine_eq
  refine PySem.P.mul_str ?_ ?_ ?_ ?_
  · rw [decide_eq_false (by omega), decide_eq_false (by omega)]
    rfl
  · intro _ _
    rw [tx_len]
    have : (1 : Int) ≤ (2 ^ 63 - 1) / (n : Int) := by
      rw [Int.le_ediv_iff_mul_le (by omega)]
      omega
    show ¬ (((1 : Nat) : Int) > _)
    omega
  · intro _ _
    rw [tx_len]
    show decide (1 * n > sizeLine) = false
    exact decide_eq_false (by omega)
  · rw [if_neg (by omega), if_neg (by
      rw [tx_len]
      simp
      omega)]
    have e : (⟨(List.replicate ((n : Int)).toNat (tx [c]).cps).foldl (· ++ ·) #[]⟩ : Str) = tx (List.replicate n c) := by
      show (⟨(List.replicate n (#[c] : Array Nat)).foldl (· ++ ·) #[]⟩ : Str) = _
      rw [rep_sign]
    rw [e]
    exact ⟨by rw [tx_len, List.length_replicate]; exact hn, .str _, H, I.tok _, ⟨_, rfl⟩, q⟩
def rStrO (C : Addr) (sp : Sp) (E : XK) : List V → Hp → VK → Prop := fun xs H Q => ∃ p dx fs, xs = [.ref p] ∧ H p = some (.ins C dx fs) ∧ sp [.ref p] H (fun v H' => ∃ z, v = .str z ∧ Q (.str z) H') E
theorem call_strO {CX : CXT} {C f : Addr} {fd : FuncData} {ps : List Str} {sp : Sp} {E : XK} {n : Nat} (F : FnOk X.prog X.w X.K X.mg X.base CX n f fd ps sp) (hs : PySem.W.findIn X.K (.ref C) "__str__" = some (some (.ref f))) (hf : PySem.W.isFn X.K (.ref f) = true)
    (hb : Binds X.K fd ps []) (hx : Passes CX X E) (hr : Room (n + 2) X.A) : CallR X (.type "str") (rStrO C sp E) := by
  intro pins s σ H xs us Q I r ⟨p, dx, fs, e, hp, hsp⟩
  subst e
  obtain ⟨u, rfl, rx⟩ := vals1 r
  cases (show u = Value.ref p from rx)
  obtain ⟨mA, J, _⟩ := ins_get I.hok hp
  obtain ⟨od, J, _⟩ := J.look
  have hr2 : Room n X.A.in1.in1 := (hr.in1).in1
  refine PySem.W.kso_call hr2.units0 I.kIn J hs hf ?_
  have e0 : Env0 X.prog X.w X.K X.mg X.base X.A.in1.in1 X.stack s H := by
    have e := I.env0
    exact ⟨e.frames, e.mod, e.bs, e.bsz, e.funs, e.frf, e.hok, e.bare⟩
  have hl := F.len _ _ _ _ hsp
  have r2 : Vals [V.ref p] [Value.ref p] := .cons rfl .nil
  refine wpAny_call (codeAny_mono (F.run X.A.in1.in1 X.stack s H ⟨[.ref p], []⟩ [.ref p] [.ref p] _ E hr2 e0 (by
    have := hb s [.ref p] I.kIn (by simpa using hl)
    simpa using this) r2 hsp) fun r s' hq => ?_)
  cases r with
  | error e => exact hx pins σ H s e s' I hq
  | ok fl =>
    cases fl with
    | ret w =>
      obtain ⟨v, H', I', rz, z, ez, ex⟩ := I.after hq
      subst ez
      obtain ⟨t, rfl⟩ := rz
      exact ⟨.str z, H', I', ⟨t, rfl⟩, ex⟩
    | next => exact False.elim hq
    | brk => exact False.elim hq
    | cont => exact False.elim hq
theorem ans_yes {K : PySem.W.Frag} {x t c : Value} {P : Heap → Prop} (ty : ∀ (M : Model) (h : Heap), K.In h → P h → PySem.W.Looks M h (typeOf x) t) (e : PySem.W.kitOne K t c = some true) : Answers (fun s => K.In s.heap ∧ P s.heap) x c true := by
  intro dep tk prog w A R st hs
  obtain ⟨hp, gg, dd, tt, oo⟩ := st
  obtain ⟨⟨kin, pp⟩, done⟩ := hs
  have look := ty (model prog w) hp kin pp
  unfold PySem.W.kitOne at e
  unfold Builtin.«isinstance.nested»
  refine wpAny_bind (look.at ?_)
  by_cases same : (t == c) = true
  · rw [if_pos same]
    exact wpAny_bind (wpAny_rule (wpAny_pure (done tt)))
  · rw [if_neg same] at e
    rw [if_neg same]
    obtain ⟨q1, q2, q3⟩ := PySem.W.kit_cls (M := model prog w) kin e
    have both : PySem.W.Looks (model prog w) hp (isInstance x c) true := look.andThen q3
    refine wpAny_bind (q1.at ?_)
    rw [if_pos (by decide)]
    k_delta "plainIsInstance"
    refine wpAny_bind (wpAny_bind (q2.at ?_))
    simp only [Bool.not_true, Bool.false_eq_true, if_false]
    refine wpAny_bind (both.at ?_)
    exact wpAny_pure (wpAny_pure (done tt))
def rIsY (K : PySem.W.Frag) (D a : Addr) : List V → Hp → VK → Prop := fun xs H Q => ∃ C : Addr, xs = [.ref a, .ref C] ∧ PySem.W.kitOne K (.ref D) (.ref C) = some true ∧ Q (.bl true) H
theorem call_isY {a D : Addr} {oe : Obj} {pn : List (Addr × Obj)} {cls : Value} {d : Option Addr} (hz : Zc cls d oe) (hcls : cls = .ref D) : CallR (X.suite a ((a, oe) :: pn)) (.builtin "isinstance") (rIsY X.K D a) := by
  intro pins s σ H xs us Q I r ⟨C, e, hk, q⟩
  subst e
  obtain ⟨u1, u2, rfl, r1, r2⟩ := vals2 r
  cases (show u1 = Value.ref a from r1)
  cases (show u2 = Value.ref C from r2)
  obtain ⟨hget, _⟩ := I.pin (a, oe) (List.mem_append.mpr (.inl List.mem_cons_self))
  refine call_isinstance (S := fun _ R s => (X.K.In s.heap ∧ s.heap.get? a = some oe) ∧ ∀ tk, R (.ok (.ret (.bool true))) { s with toks := tk })
    (fun prog w A R s hs => isinstance_outer (ans_yes (K := X.K) (P := fun h => h.get? a = some oe) (fun M h _ hp => ?_) hk 0 _ prog w A R s hs) (fun z => nomatch z)) ⟨⟨I.kIn, hget⟩, fun tk => ⟨.bl true, H, I.kept (t' := tk) fun _ _ z => z, rfl, q⟩⟩
  have e1 : oe.cls = .ref D := by rw [← hcls]; exact hz.1
  rw [← e1]
  exact (PySem.W.Looks.ld (part := none) hp).andThen .now
end
end Z
set_option maxRecDepth 100000
set_option maxHeartbeats 4000000
namespace Z
open PySem PySem.Spec PyProof.Rows L2
section
variable {X : Cx}
def tFmtO (C : Addr) (sp : Sp) (E : XK) (te : TE) : TE := fun σ H Q => te σ H fun x H1 => ∃ p dx fs, x = .ref p ∧ H1 p = some (.ins C dx fs) ∧ sp [.ref p] H1 (fun v H2 => ∃ z, v = .str z ∧ Q (.str z) H2) E
theorem pe_fmtO {CX : CXT} {C f : Addr} {fd : FuncData} {ps : List Str} {sp : Sp} {E : XK} {n : Nat} {e : Expr} {te : TE} {pos : Pos} (F : FnOk X.prog X.w X.K X.mg X.base CX n f fd ps sp)
    (hs : PySem.W.findIn X.K (.ref C) "__str__" = some (some (.ref f))) (hf : PySem.W.isFn X.K (.ref f) = true) (hfm : PySem.W.findIn X.K (.ref C) "__format__" = some (some (.builtin "object.__format__"))) (hm : PySem.W.mroIn X.K C (.type "object") = some true)
    (hb : Binds X.K fd ps []) (hx : Passes CX X E) (hr : Room (n + 1) X.A) (he : PE X e te) : PE X (.FormattedValue e (-1) none pos) (tFmtO C sp E te) := by
  refine ⟨fun pins s σ H Q I h => ?_⟩
  refine wpAny_FormattedValue_plain (thn (he.run pins s σ H _ I h) fun u s1 ⟨x, H1, I1, r1, p, dx, fs, ex, hp, hsp⟩ => ?_)
  subst ex
  obtain rfl : u = Value.ref p := r1
  obtain ⟨mA, J, _⟩ := ins_get I1.hok hp
  obtain ⟨od, J, _⟩ := J.look
  have r2 : Room n X.A.in1 := hr.in1
  have I2 := I1.tok (s1.toks + 1)
  have hl := F.len _ _ _ _ hsp
  have rv : Vals [V.ref p] [Value.ref p] := .cons rfl .nil
  refine PySem.W.kfo_fieldS r2.units0 I2.kIn J hfm hm hs hf ?_
  refine wpAny_call (codeAny_mono (F.run X.A.in1 X.stack { s1 with toks := s1.toks + 1 } H1 ⟨[.ref p], []⟩ [.ref p] [.ref p] _ E r2 I2.env0.in1 (by
    have := hb { s1 with toks := s1.toks + 1 } [.ref p] I2.kIn (by simpa using hl)
    simpa using this) rv hsp) fun r s' hq => ?_)
  cases r with
  | error er => exact (hx pins σ H1 _ er s' I2 hq)
  | ok fl =>
    cases fl with
    | ret w =>
      obtain ⟨v, H', I', rz, z, ez, ex⟩ := I2.after hq
      subst ez
      obtain ⟨t, rfl⟩ := rz
      exact ⟨.str z, H', I', ⟨t, rfl⟩, ex⟩
    | next => exact False.elim hq
    | brk => exact False.elim hq
    | cont => exact False.elim hq
end
end Z
set_option maxRecDepth 100000
set_option maxHeartbeats 4000000
namespace Z
open PySem PySem.Spec PyProof.Rows L2 LamX
def OnlyT (P : Addr) (H : Hp) : Prop := H P = some (.tbl #[]) ∧ ∀ b, b ≠ P → H b = none ∨ ∃ o xs, H b = some (.frz o (.lst xs))
section
variable {prog : Program} {w : World} {K : PySem.W.Frag} {mg mb : Str → Option Value} {CX : CXT}
theorem law_GT {k : Nat} {fa a c P : Addr} {fd : FuncData} {x : Str} {sp : Sp} {s1 : Shared} {vs : List Value} {ns : List Int}
    (hin : K.In s1.heap) (glob : s1.heap.Ns mainGlobals mg) (blt : s1.heap.Ns builtinsNs mb) (bb : ∀ x : Str, x ≠ "__name__" → mb x = bootBuiltins x) (lim : s1.heap.NoLimit) (bare : s1.gens = #[])
    (tab : s1.heap.get? P = some { cls := .none, data := .fields #[] }) (noK : K.lookup P = none) (code : PySem.W.CodeHd s1.heap c P)
    (bmod : ∃ (bm : Addr) (ob : Obj), mg "__builtins__" = some (.ref bm) ∧ bm ≠ builtinsNs ∧ s1.heap.get? bm = some ob ∧ ob.cls = .type "module" ∧ ob.dict = some builtinsNs ∧ ob.data = .plain)
    (scr : s1.heap.get? a = some { cls := .type "list", data := .seq vs.toArray }) (its : IntsAre vs ns) (few : ns.length ≤ sizeLine) (room : Room k callerA)
    (F : ∀ base : Heap, K.In base → base.Ns mainGlobals mg → TabB base mg c P → FnG prog w K mg base CX k fa fd [x] sp) (bd : ∀ (s : Shared) (u : Value), BindsTo s fd ⟨[u], []⟩ [(x, u)])
    (wish : ∀ H : Hp, OnlyT P H → SqL K H a (ns.map V.int) → sp [.ref a] H (fun v _ => v = .bl true) fun _ _ _ => False)
    (none_out : ∀ H e s', CX [] H s1 (fun _ _ _ => False) e s' → False) :
    codeAny (model prog w) callerA (.call (.ref fa) ⟨[.ref a], []⟩) (fun r s' => r = .ok (.ret (.bool true)) ∧ OldK s1.heap s'.heap ∧ s'.os = s1.os ∧ AllBare s'.gens) s1 := by
  have rv := vals_ints its
  have aP : a ≠ P := fun z => by
    rw [z, tab] at scr
    have d : Data.fields #[] = Data.seq vs.toArray _ := congrArg Obj.data (Option.some.inj scr)
    cases d
  have go : ∀ H : Hp, OnlyT P H → SqL K H a (ns.map V.int) → HOk prog w H s1.heap → (∀ b u, H b = some u → b = P ∨ (b = a ∧ K.lookup a = none)) →
      codeAny (model prog w) callerA (.call (.ref fa) ⟨[.ref a], []⟩) (fun r s' => r = .ok (.ret (.bool true)) ∧ OldK s1.heap s'.heap ∧ s'.os = s1.os ∧ AllBare s'.gens) s1 := by
    intro H only sq ok at_
    have free : ∀ {b : Addr} {o : Obj}, s1.heap.get? b = some o → (∀ us n, o.data ≠ .seq us n) → o.data ≠ .fields #[] → H b = none := fun {b o} e n1 n2 => by
      cases q : H b with
      | none => rfl
      | some u =>
        rcases at_ b u q with rfl | ⟨rfl, _⟩
        · rw [tab] at e
          cases e
          exact (n2 rfl).elim
        · rw [scr] at e
          cases e
          exact (n1 _ _ rfl).elim
    have ns_ : ∀ {b : Addr} {m : Str → Option Value}, s1.heap.Ns b m → (hidT s1.heap H).Ns b m := fun {b m} ⟨o, es, ep, e, d, r⟩ =>
      ⟨o, es, ep, hidT_get e (free e (fun us n z => by rw [d] at z; cases z) fun z => by rw [d] at z; cases z), d, r⟩
    have kin : K.In (hidT s1.heap H) := fun b o e => hidT_get (hin b o e) (by
      cases q : H b with
      | none => rfl
      | some u =>
        rcases at_ b u q with rfl | ⟨rfl, z⟩
        · rw [noK] at e
          cases e
        · rw [z] at e
          cases e)
    have TB : TabB (hidT s1.heap H) mg c P := by
      refine ⟨?_, ?_, fun z => ?_⟩
      · obtain ⟨o, us, file, tf, flags, tg, inF, text, tt, e1, r1, r2, r3, r⟩ := code
        refine ⟨o, us, file, tf, flags, tg, inF, text, tt, hidT_get e1 (free e1 (fun vs n z => ?_) fun z => ?_), r1, r2, r3, r⟩
        · rw [r2] at z
          cases z
        · rw [r2] at z
          cases z
          simp at r3
      · obtain ⟨bm, ob, b1, b2, b3, b4, b5, b6⟩ := bmod
        refine ⟨bm, ob, b1, b2, fun q => ?_, fun q => ?_, hidT_get b3 (free b3 (fun vs n z => ?_) fun z => ?_), b4, b5, b6⟩
        · obtain ⟨o, es, ep, e, d, _⟩ := glob
          rw [q, e] at b3
          cases b3
          rw [d] at b6
          cases b6
        · rw [q, tab] at b3
          cases b3
          cases b6
        · rw [b6] at z
          cases z
        · rw [b6] at z
          cases z
      · obtain ⟨o, es, ep, e, d, _⟩ := glob
        rw [z, tab] at e
        cases e
        cases d
    have e0 : Env0 prog w K mg (hidT s1.heap H) callerA [] s1 H :=
      ⟨rfl, ⟨kin, ns_ glob, ⟨mb, ns_ blt, bb⟩, lim.imp fun _ q => ⟨ns_ q.1, q.2⟩⟩, fun b o e => of_hidT e, Nat.le_of_eq (hidT_size _ _), trivial, fun b hb => (List.not_mem_nil hb).elim, ok, .of_eq bare⟩
    refine codeAny_mono ((F _ kin (ns_ glob) TB).run callerA [] s1 H ⟨[.ref a], []⟩ [.ref a] [.ref a] _ _ room rfl e0 (bd s1 (.ref a)) (.cons rfl .nil) (wish H only sq)) fun r s' out => ?_
    match r, out with
    | .error e, out => exact (none_out H e s' out).elim
    | .ok .next, out => exact out.elim
    | .ok .brk, out => exact out.elim
    | .ok .cont, out => exact out.elim
    | .ok (.ret u), ⟨v, H', os, gens, un, ok', r', q⟩ =>
      have q' : v = V.bl true := q
      subst q'
      obtain rfl : u = Value.bool true := r'
      have key : ∀ b o, b ≠ P → s1.heap.get? b = some o → s'.heap.get? b = some o := fun b o nb e => by
        cases hb : H b with
        | none => exact un.keep b o e hb List.not_mem_nil List.not_mem_nil
        | some u =>
          rcases only.2 b nb with z | ⟨ob, xs, z⟩
          · rw [z] at hb
            cases hb
          · have z2 := (ok' b _ (un.frzs b ob _ z)).1
            rw [(ok b _ z).1] at e
            cases e
            exact z2
      obtain ⟨more, grown⟩ : ∃ more : Array Value, s'.heap.get? P = some { cls := .none, data := .fields more } := by
        obtain ⟨more, z⟩ := un.tbls P #[] only.1
        exact ⟨_, ok' P _ z⟩
      refine ⟨rfl, ⟨fun b o e => ?_, fun b o e => ?_⟩, os, gens⟩
      · by_cases hb : b = P
        · subst hb
          rw [tab] at e
          cases e
          exact .inr (.inl ⟨(code.tab tab).isCodeTable, rfl, #[], more, rfl, by rw [Array.empty_append]; exact grown⟩)
        · exact .inl (key b o hb e)
      · by_cases hb : b = P
        · subst hb
          exact ⟨_, grown⟩
        · exact ⟨o, key b o hb e⟩
  cases hk : K.lookup a with
  | some o =>
    have e := hin a o hk
    rw [scr] at e
    cases e
    have at_P : ∀ b u, (if b = P then some (HO.tbl #[]) else none) = some u → b = P ∧ u = HO.tbl #[] := fun b u z => by
      split at z
      · exact ⟨by assumption, (Option.some.inj z).symm⟩
      · cases z
    refine go (fun b => if b = P then some (.tbl #[]) else none) ⟨if_pos rfl, fun b hb => .inl (if_neg hb)⟩ (.inr ⟨_, vs.toArray, _, hk, rfl, rfl, rfl, by rw [List.size_toArray, its.length]; exact few, by simpa using rv⟩) (fun b u z => ?_) fun b u z => .inl (at_P b u z).1
    obtain ⟨rfl, rfl⟩ := at_P b u z
    exact tab
  | none =>
    have at_a : ∀ b u, (if b = P then some (HO.tbl #[]) else if b = a then some (HO.frz { cls := .type "list", data := .seq vs.toArray } (.lst (ns.map V.int))) else none) = some u → (b = P ∧ u = HO.tbl #[]) ∨ (b = a ∧ u = HO.frz { cls := .type "list", data := .seq vs.toArray } (.lst (ns.map V.int))) := fun b u z => by
      split at z
      · exact .inl ⟨by assumption, (Option.some.inj z).symm⟩
      · split at z
        · exact .inr ⟨by assumption, (Option.some.inj z).symm⟩
        · cases z
    refine go (fun b => if b = P then some (.tbl #[]) else if b = a then some (.frz { cls := .type "list", data := .seq vs.toArray } (.lst (ns.map V.int))) else none) ⟨if_pos rfl, fun b hb => ?_⟩ (.inl (.inr ⟨_, (if_neg aP).trans (if_pos rfl)⟩)) (fun b u z => ?_) fun b u z => (at_a b u z).imp (fun q => q.1) fun q => ⟨q.1, hk⟩
    · by_cases hb2 : b = a
      · exact .inr ⟨_, _, (if_neg hb).trans (if_pos hb2)⟩
      · exact .inl ((if_neg hb).trans (if_neg hb2))
    · rcases at_a b u z with ⟨rfl, rfl⟩ | ⟨rfl, rfl⟩
      · exact tab
      · exact ⟨scr, by rw [List.length_map]; exact few, vs, _, rv, scr⟩
theorem okGC {x qual : Str} {st : Stmt} {f : Addr} {fd : FuncData} {N ps : List Str} {k : Nat} {sp : Sp} {base : Heap} (F : Fun K x qual st f fd) (S : FnScope N ps (defScope st)) (len : ∀ vs H Q E, sp vs H Q E → vs.length = ps.length)
    (hbody : ∀ (A : Around) (outer : List Env) (s : Shared) (H : Hp) (vs : List V) (Q : VK) (E : XK), Room k (A.deeper (envOfC qual (defScope st) s.heap.objs.size f fd.code)) → A.guards = some [] → sp vs H Q E →
      ∃ t, PSs (cxOf CX prog w K mg base N qual (defScope st) f fd.code A outer s H E) (defBody st) t ∧ t { nx := fun _ H' => Q .non H', rt := Q } (start N vs) H) : FnG prog w K mg base CX (k + 1) f fd ps sp := by
  obtain ⟨oc, od, kV, doc, pm, an, cdv, ct, osl, rfl, lk, code⟩ := F.ex
  have F2 : Fun K x qual st f (PySem.W.fnOf x qual (defArgs st) (defBody st) (defScope st) .none kV doc pm an cdv ct) := F
  refine ⟨len, fun A outer s H args us vs Q E room gu e0 bd rv wish => ?_⟩
  have hin : K.In s.heap := e0.mod.kin.keeps fun b o e => (e0.bs b o e).1
  have big : s.heap.NoLimit := e0.mod.nolimit.keeps fun b o e => (e0.bs b o e).1
  have count := len vs H Q E wish
  refine codeAny_call_function room.depth (hin _ _ lk) rfl S.co S.gen rfl (PySem.W.codeRec_of hin code) (bd _ _ _ _ ?_)
  refine wpAny_newFunctionEnv_cells S.kind (fun y hy => ?_) fun env he s1 y => ?_
  · exact (S.par y.1 (List.of_mem_zip hy).1).imp id fun q => ⟨q, PySem.W.cellsFrom_some _ _ _ (.inl q)⟩
  · subst he
    refine ⟨big.keeps y.toInCall.keep, codeAny_func ?_⟩
    obtain ⟨t, der, rd⟩ := hbody A outer s H vs Q E (room.deeper _) gu wish
    refine wpAny_mono (der.run [] s1 (start N vs) H _ (inv_start S room.hd e0 count rv y) rd) (fun fl s' out => ?_) fun _ _ out => out
    match fl, out with
    | .ret u, ⟨v, _, H', J, r, q⟩ => exact ⟨v, H', J.os, J.bare, J.base, J.hok, r, q⟩
    | .next, ⟨_, H', J, q⟩ => exact ⟨.non, H', J.os, J.bare, J.base, J.hok, rfl, q⟩
    | .brk, ⟨_, _, _, q⟩ => exact q.elim
    | .cont, ⟨_, _, _, q⟩ => exact q.elim
end
theorem walkGT {l : PySem.W.OpenLaw} {n k : Nat} {q : Program} {loose : List Str} {XP : (Str → Option Value) → Heap → Prop} {YP : World → Heap → Prop} {d : DefRec} {K : Params → PySem.W.Frag} {CX : World → CXT} {sp : World → Addr → Addr → Sp} {x : Str}
    (hn : l.most = some n) (hn2 : n ≤ sizeLine) (hdf : d.params.defaults = []) (hr : Room k callerA) (hrec : ((recsOf q).any fun e => e.name == d.name) = true)
    (hY : ∀ (w : World) (h : Heap), YP w h → (K w.params).In h)
    (F : ∀ (w : World) (mg : Str → Option Value) (fa : Addr) (h : Heap), (K w.params).In h → h.Ns mainGlobals mg → mg d.name = some (.ref fa) → OwnTab (K w.params) fa h →
      ∃ (fd : FuncData) (c P : Addr), (∀ (s : Shared) (u : Value), BindsTo s fd ⟨[u], []⟩ [(x, u)]) ∧ h.get? P = some { cls := .none, data := .fields #[] } ∧ (K w.params).lookup P = none ∧ PySem.W.CodeHd h c P ∧
        ∀ base : Heap, (K w.params).In base → base.Ns mainGlobals mg → TabB base mg c P → FnG l.prog w (K w.params) mg base (CX w) k fa fd [x] (sp w c P))
    (hsp : ∀ (w : World) (H : Hp) (a c P : Addr) (ns : List Int), ns.length ≤ n → (∀ z ∈ ns, Builtin.Int.intBits z ≤ 1048576) → OnlyT P H → SqL (K w.params) H a (ns.map V.int) → sp w c P [.ref a] H (fun v _ => v = .bl true) fun _ _ _ => False)
    (hCX : ∀ (w : World) (H : Hp) (s : Shared) (e : Value) (s' : Shared), CX w [] H s (fun _ _ _ => False) e s' → False) :
    PySem.W.WalkO q loose XP YP l.row.toRowW d [] (fun f vs => PySem.call f vs) := by
  refine Att.attach_callB hn hdf fun w s₀ s₁ mg mb fa o pm cd doc a vs ns G Y ho hd hcd hmg hobj hints hlen hbits hg => ?_
  have kin := hY w _ Y
  have own : OwnTab (K w.params) fa s₁.heap := by
    intro c P o1 fd1 e dd vs1 sl k1 k2 k3 k4 k5
    obtain ⟨dL, hm, same⟩ := List.any_eq_true.mp hrec
    have same2 : dL.name = d.name := beq_iff_eq.mp same
    obtain ⟨a2, o2, fd2, c2, P2, h1, h2, h3, h4, h5, ⟨⟨oc, vc, e1, _, e3, e4⟩, hP⟩⟩ := G.T.tab dL hm
    rw [same2, hmg] at h1
    cases h1
    have g1 := kin _ _ k1
    rw [g1] at h2
    cases h2
    rw [k2] at h3
    cases h3
    rw [k3] at h4
    cases h4
    have g2 := kin _ _ k4
    rw [g2] at e1
    cases e1
    cases e3
    rw [k5] at e4
    cases e4
    exact hP
  obtain ⟨fd, c, P, hb, tab, noK, code, hF⟩ := F w mg fa _ kin G.T.g hmg own
  exact law_GT kin G.T.g G.T.b G.T.builtins G.T.nolimit hg tab noK code G.T.bmain hobj hints (Nat.le_trans hlen hn2) hr hF hb (fun H hO hS => hsp w H a c P ns hlen hbits hO hS) fun H e s' => hCX w H s₁ e s'
end Z
set_option maxRecDepth 100000
set_option maxHeartbeats 4000000
namespace Z
open PySem PySem.Spec PyProof.Rows L2 PySem.Froz
def SetS (P : Program) (w : World) (h : Heap) (a : Addr) (l : List PySem.Str) : Prop :=
  ∃ D : SD, h.get? a = some (sObj "set" D) ∧ TxOk P w D l ∧ l.Nodup ∧ l.length < scanBound ∧ Ris D.2.2.place.toList ∧ (w.params.followText "set-order" = true ∨ D.2.2.led = true)
section
variable {P : Program} {w : World} {A : Around} {E : Value → Shared → Prop} {s : Shared} {a : Addr} {l : List PySem.Str}
theorem SetS.at {h h' : Heap} (R : SetS P w h a l) (k : ∀ o, h.get? a = some o → h'.get? a = some o) : SetS P w h' a l := by
  obtain ⟨D, e, rest⟩ := R
  exact ⟨D, k _ e, rest⟩
theorem tail_ris {ep : Nat} {es1 : Array (Int × Value)} {t2 : SetTable} {wd : Bool} (r : Ris t2.place.toList) : Ris (tailTx ep es1 t2 wd).2.2.place.toList := by
  unfold tailTx
  by_cases c : (!wd && t2.tooFull) = true
  · rw [if_pos c]
    exact relayAll_ris _ _ _
  · rw [if_neg c]
    exact r
theorem tail_led {ep : Nat} {es1 : Array (Int × Value)} {t2 : SetTable} {wd : Bool} : (tailTx ep es1 t2 wd).2.2.led = t2.led := by
  unfold tailTx
  by_cases c : (!wd && t2.tooFull) = true
  · rw [if_pos c]
    exact relayAll_led _ _ _
  · rw [if_neg c]
theorem add_ris {D : SD} {hh : Int} {v : Value} (r : Ris D.2.2.place.toList) : Ris (addTx hh v D).2.2.place.toList := by
  have r2 := layNew_ris D.2.2 D.1 hh v r
  refine tail_ris ?_
  by_cases c : (layNew D.2.2 D.1 hh v).2.1.plain = true
  · rw [if_pos c]
    exact r2
  · rw [if_neg c]
    exact r2
theorem add_led {D : SD} {hh : Int} {v : Value} : (addTx hh v D).2.2.led = D.2.2.led := by
  have r2 := layNew_led D.2.2 D.1 hh v
  unfold addTx
  rw [tail_led]
  by_cases c : (layNew D.2.2 D.1 hh v).2.1.plain = true
  · rw [if_pos c]
    exact r2
  · rw [if_neg c]
    exact r2
def more (l : List PySem.Str) (k : PySem.Str) : List PySem.Str := if k ∈ l then l else k :: l
theorem addS_hashed {k : PySem.Str} {u : Tok} {Q : Bool → Shared → Prop} (R : SetS P w s.heap a l) (room : l.length + 1 < scanBound)
    (hQ : ∀ h' b, Heap.SameBut a s.heap h' → SetS P w h' a (more l k) → Q b { s with heap := h' }) : wpAny (model P w) A (setAddHashed a (.str k u) (hashStr w k)) Q E s := by
  obtain ⟨D, ho, F, nd, bl, ri, le⟩ := R
  by_cases hk : k ∈ l
  · have same : SetS P w s.heap a (more l k) := by
      unfold more
      rw [if_pos hk]
      exact ⟨D, ho, F, nd, bl, ri, le⟩
    obtain ⟨es, ep, t⟩ := D
    have dat : (sObj "set" (es, ep, t)).data = .set es ep t := rfl
    have fit : t.fits es.size = true := F.fit
    have els : ElemsOf (strKind P w) es.toList := F.el
    have siz : es.size < scanBound := by
      have e : es.size = l.length := F.sz
      omega
    have key : (strKind P w).is k (.str k u) = true := is_str k u
    unfold setAddHashed setAddHashedIn
    refine wpAny_holding (wpAny_bind (wpAny_setState_of ho dat fit ?_))
    dsimp only
    rw [byScan_of rfl siz els]
    simp only [↓reduceIte]
    unfold setAddByScan
    refine wpAny_bind (wpAny_bind (wpAny_rule (wpAny_bind (wpAny_setScan_of (knd := strKind P w) (k := k) key ho dat fit els ?_))))
    cases found : List.findIdx? (fun e => (strKind P w).is k e.2) es.toList with
    | some j =>
      dsimp only
      exact wpAny_pure (wpAny_pure (hQ s.heap _ (Heap.SameBut.refl a s.heap) same))
    | none =>
      obtain ⟨e, he, z⟩ := (F.mem k).mp hk
      have c := List.findIdx?_eq_none_iff.mp found e he
      rw [z] at c
      cases c
  · refine add_x ho F hk room (hQ _ _ (Heap.SameBut.update s.heap a _) ?_)
    have e : more l k = k :: l := if_neg hk
    rw [e]
    refine ⟨_, get_upd _ ho rfl, add_ok u F, List.nodup_cons.mpr ⟨hk, nd⟩, room, add_ris ri, ?_⟩
    rw [add_led]
    exact le
theorem SetS.typ (R : SetS P w s.heap a l) : s.TypeIs (.ref a) "set" := by
  obtain ⟨D, ho, _⟩ := R
  exact ⟨_, ho, rfl⟩
theorem setS_add {k : PySem.Str} {u : Tok} {Q : Value → Shared → Prop} (R : SetS P w s.heap a l) (room : l.length + 1 < scanBound)
    (hQ : ∀ h', Heap.SameBut a s.heap h' → SetS P w h' a (more l k) → Q .none { s with heap := h', toks := s.toks + 1 }) : wpAny (model P w) A (call (.builtin "set.add") [.ref a, .str k u]) Q E s := by
  refine wpAny_call_entry F.slot_set_add R.typ F.entry_set_add ?_ (F.args_set_add_2 _ _)
  unfold Builtin.«set.add» Builtin.Frozenset.oneOther
  simp only [List.isEmpty_nil, bind_assoc]
  unfold Builtin.Frozenset.addrOf setAdd
  refine wpAny_bind (wpAny_pure ?_)
  try dsimp only
  refine wpAny_bind (wpAny_pure ?_)
  try dsimp only
  refine wpAny_bind (wpAny_holding (wpAny_bind ((strKind P w).pyHash (is_str k u) ?_)))
  refine addS_hashed (s := { s with toks := s.toks + 1 }) R room fun h' b sb r => ?_
  show wpAny _ _ (ret Value.none) _ _ _
  exact wpAny_pure ⟨_, rfl, hQ h' sb r⟩
theorem setS_fresh {h : Heap} (w : World) : SetS P w (h.push { cls := .type "set", dict := none, data := .set #[] 0 (.fresh 0 0 (!w.params.followText "set-order")) }) h.objs.size [] :=
  ⟨(#[], 0, .fresh 0 0 (!w.params.followText "set-order")), Heap.get?_push_size _ rfl, TxOk.nil (by rfl), List.nodup_nil, by decide, List.Pairwise.nil, by
    show _ ∨ (!w.params.followText "set-order") = true
    cases w.params.followText "set-order" with
    | false => exact .inr rfl
    | true => exact .inl rfl⟩
end
def SetSO (P : Program) (w : World) (a : Addr) (l : List PySem.Str) : HO := .ext fun h => SetS P w h a l
section
variable {X : Cx} {pins : List (Addr × Obj)} {σ : L2.St} {H : Hp} {s : Shared} {E : Value → Shared → Prop} {D : Addr} {l : List PySem.Str}
theorem setSO_new {P : Program} {w : World} {H : Hp} {h : Heap} {a : Addr} (R : SetS P w h a l) : ObjOk P w H h a (SetSO P w a l) :=
  ⟨R, by obtain ⟨D, e, _⟩ := R; exact ⟨_, e⟩, fun h1 h2 r k => SetS.at r k⟩
theorem setSO_get (I : Inv X pins σ H s) (h : H D = some (SetSO X.prog X.w D l)) : SetS X.prog X.w s.heap D l := (I.hok D _ h).1
theorem addS_ok {k : PySem.Str} {u : Tok} {Q : Value → Shared → Prop} (I : Inv X pins σ H s) (hD : H D = some (SetSO X.prog X.w D l)) (room : l.length + 1 < scanBound)
    (h : ∀ s', Inv X pins σ (upd H D (SetSO X.prog X.w D (more l k))) s' → Q .none s') : wpAny (model X.prog X.w) X.A (call (.builtin "set.add") [.ref D, .str k u]) Q E s := by
  refine setS_add (setSO_get I hD) room fun h' sb new => ?_
  have there : ∃ o, h'.get? D = some o := by
    obtain ⟨d, e, _⟩ := new
    exact ⟨_, e⟩
  exact h _ (I.write (e := D) (t' := s.toks + 1) (by rw [hD]; trivial) (.inl rfl) (fun b o hb hu => (sb.2 b hb).trans hu) there (setSO_new new))
end
end Z
set_option maxRecDepth 100000
set_option maxHeartbeats 4000000
namespace Z
open PySem PySem.Spec PyProof.Rows L2 PySem.Froz
structure Ord (α : Type) [DecidableEq α] where
  lt : α → α → Bool
  irr : ∀ a, lt a a = false
  tr : ∀ a b c, lt a b = true → lt b c = true → lt a c = true
  tot : ∀ a b, lt a b = false → lt b a = false → a = b
section
variable {α : Type} [DecidableEq α]
def Ord.ins (O : Ord α) (k : α) : List α → List α
  | [] => [k]
  | x :: r => if O.lt k x = true then k :: x :: r else if k = x then x :: r else x :: O.ins k r
def Ord.asc (O : Ord α) : List α → List α
  | [] => []
  | x :: r => O.ins x (O.asc r)
def Ord.Up (O : Ord α) (l : List α) : Prop := l.Pairwise fun a b => O.lt a b = true
variable {O : Ord α}
theorem Ord.mem_ins {k y : α} : ∀ {l : List α}, y ∈ O.ins k l ↔ y = k ∨ y ∈ l
  | [] => by simp [Ord.ins]
  | x :: r => by
    unfold Ord.ins
    split
    · simp
    · split
      · rename_i h
        subst h
        simp
      · rw [List.mem_cons, Ord.mem_ins (l := r), List.mem_cons]
        constructor
        · rintro (h | h | h)
          · exact .inr (.inl h)
          · exact .inl h
          · exact .inr (.inr h)
        · rintro (h | h | h)
          · exact .inr (.inl h)
          · exact .inl h
          · exact .inr (.inr h)
theorem Ord.up_ins {k : α} : ∀ {l : List α}, O.Up l → O.Up (O.ins k l)
  | [], _ => List.pairwise_singleton _ _
  | x :: r, h => by
    obtain ⟨h1, h2⟩ := List.pairwise_cons.mp h
    unfold Ord.ins
    split
    · rename_i hk
      refine List.pairwise_cons.mpr ⟨fun y hy => ?_, h⟩
      rcases List.mem_cons.mp hy with rfl | hy
      · exact hk
      · exact O.tr _ _ _ hk (h1 y hy)
    · rename_i hk
      split
      · exact h
      · rename_i hx
        refine List.pairwise_cons.mpr ⟨fun y hy => ?_, Ord.up_ins h2⟩
        rcases Ord.mem_ins.mp hy with rfl | hy
        · cases hc : O.lt x y with
          | true => rfl
          | false => exact absurd (O.tot _ _ (Bool.eq_false_iff.mpr hk) hc) hx
        · exact h1 y hy
theorem Ord.mem_asc {y : α} : ∀ {l : List α}, y ∈ O.asc l ↔ y ∈ l
  | [] => Iff.rfl
  | x :: r => by
    unfold Ord.asc
    rw [Ord.mem_ins, Ord.mem_asc (l := r), List.mem_cons]
theorem Ord.up_asc : ∀ {l : List α}, O.Up (O.asc l)
  | [] => List.Pairwise.nil
  | x :: r => Ord.up_ins Ord.up_asc
theorem Ord.up_eq : ∀ {l m : List α}, O.Up l → O.Up m → (∀ y, y ∈ l ↔ y ∈ m) → l = m
  | [], [], _, _, _ => rfl
  | [], b :: m, _, _, h => absurd ((h b).mpr List.mem_cons_self) (by simp)
  | a :: l, [], _, _, h => absurd ((h a).mp List.mem_cons_self) (by simp)
  | a :: l, b :: m, u, v, h => by
    obtain ⟨u1, u2⟩ := List.pairwise_cons.mp u
    obtain ⟨v1, v2⟩ := List.pairwise_cons.mp v
    have e : a = b := by
      rcases List.mem_cons.mp ((h a).mp List.mem_cons_self) with e | e
      · exact e
      · rcases List.mem_cons.mp ((h b).mpr List.mem_cons_self) with f | f
        · exact f.symm
        · have x1 := v1 a e
          have x2 := u1 b f
          have := O.tr _ _ _ x1 x2
          rw [O.irr] at this
          cases this
    subst e
    rw [Ord.up_eq u2 v2 fun y => ?_]
    constructor
    · intro hy
      rcases List.mem_cons.mp ((h y).mp (List.mem_cons_of_mem _ hy)) with e | e
      · subst e
        have := u1 y hy
        rw [O.irr] at this
        cases this
      · exact e
    · intro hy
      rcases List.mem_cons.mp ((h y).mpr (List.mem_cons_of_mem _ hy)) with e | e
      · subst e
        have := v1 y hy
        rw [O.irr] at this
        cases this
      · exact e
theorem Ord.asc_eq {l m : List α} (h : ∀ y, y ∈ l ↔ y ∈ m) : O.asc l = O.asc m := Ord.up_eq Ord.up_asc Ord.up_asc fun y => by rw [Ord.mem_asc, Ord.mem_asc, h]
theorem Ord.asc_up {l : List α} (h : O.Up l) : O.asc l = l := Ord.up_eq Ord.up_asc h fun y => Ord.mem_asc
theorem Ord.asc_asc {l : List α} : O.asc (O.asc l) = O.asc l := Ord.asc_up Ord.up_asc
theorem Ord.len_ins {k : α} : ∀ {l : List α}, (O.ins k l).length ≤ l.length + 1
  | [] => Nat.le_refl _
  | x :: r => by
    unfold Ord.ins
    split
    · exact Nat.le_refl _
    · split
      · exact Nat.le_succ _
      · exact Nat.succ_le_succ Ord.len_ins
theorem Ord.len_asc : ∀ {l : List α}, (O.asc l).length ≤ l.length
  | [] => Nat.le_refl _
  | x :: r => Nat.le_trans Ord.len_ins (Nat.succ_le_succ Ord.len_asc)
theorem Ord.up_nodup {l : List α} (h : O.Up l) : l.Nodup := h.imp fun {a b} h e => by
  subst e
  rw [O.irr] at h
  cases h
end
def sOrd : Ord PySem.Str where
  lt a b := decide (a.cps.toList < b.cps.toList)
  irr a := decide_eq_false (List.lt_irrefl _)
  tr a b c h1 h2 := decide_eq_true (List.lt_trans (of_decide_eq_true h1) (of_decide_eq_true h2))
  tot a b h1 h2 := str_ext (List.le_antisymm (List.not_lt.mp (of_decide_eq_false h2)) (List.not_lt.mp (of_decide_eq_false h1)))
def iOrd : Ord Int where
  lt a b := decide (a < b)
  irr a := decide_eq_false (Int.lt_irrefl _)
  tr a b c h1 h2 := decide_eq_true (Int.lt_trans (of_decide_eq_true h1) (of_decide_eq_true h2))
  tot a b h1 h2 := by
    have := of_decide_eq_false h1
    have := of_decide_eq_false h2
    omega
abbrev ascS (l : List PySem.Str) : List PySem.Str := sOrd.asc l
abbrev ascI (l : List Int) : List Int := iOrd.asc l
theorem rising_up : ∀ {p : PySem.Str} {l : List PySem.Str}, risingS p l = true → (p :: l).Pairwise fun a b => sOrd.lt b a = false
  | p, [], _ => List.pairwise_singleton _ _
  | p, x :: r, h => by
    have h : (!ltCps x.cps.toList p.cps.toList && risingS x r) = true := h
    rw [Bool.and_eq_true] at h
    obtain ⟨h1, h2⟩ := h
    have ih := rising_up h2
    have h1' : sOrd.lt x p = false := by
      rw [ltCps_eq] at h1
      show decide (x.cps.toList < p.cps.toList) = false
      simpa using h1
    refine List.pairwise_cons.mpr ⟨fun y hy => ?_, ih⟩
    rcases List.mem_cons.mp hy with rfl | hy
    · exact h1'
    · have h3 := (List.pairwise_cons.mp ih).1 y hy
      cases hc : sOrd.lt y p with
      | false => rfl
      | true =>
        exfalso
        by_cases e : sOrd.lt p x = true
        · have := sOrd.tr _ _ _ hc e
          rw [this] at h3
          cases h3
        · have e2 := sOrd.tot _ _ (Bool.eq_false_iff.mpr e) h1'
          rw [← e2, hc] at h3
          cases h3
theorem sorted_asc {l m : List PySem.Str} (h : sortedS l = true) (nd : l.Nodup) (hm : ∀ y, y ∈ l ↔ y ∈ m) : l = ascS m := by
  refine Ord.up_eq ?_ Ord.up_asc fun y => by rw [hm, Ord.mem_asc]
  cases l with
  | nil => exact List.Pairwise.nil
  | cons p r =>
    have h := rising_up (show risingS p r = true from h)
    refine (h.and nd).imp fun {a b} ⟨h1, h2⟩ => ?_
    cases hc : sOrd.lt a b with
    | true => rfl
    | false => exact absurd (sOrd.tot _ _ hc h1) h2
theorem ints_asc {l m : List Int} (h : l.Pairwise (· < ·)) (hm : ∀ y, y ∈ l ↔ y ∈ m) : l = ascI m :=
  Ord.up_eq (O := iOrd) (h.imp fun {a b} h => (decide_eq_true h : decide (a < b) = true)) Ord.up_asc fun y => by rw [hm, Ord.mem_asc]
def mor {κ : Type} [DecidableEq κ] (l : List κ) (k : κ) : List κ := if k ∈ l then l else k :: l
theorem mem_mor {κ : Type} [DecidableEq κ] {l : List κ} {k y : κ} : y ∈ mor l k ↔ y ∈ l ∨ y = k := by
  unfold mor
  split
  · exact ⟨.inl, fun h => h.elim id fun e => by rw [e]; assumption⟩
  · rw [List.mem_cons]
    exact Or.comm
theorem len_mor {κ : Type} [DecidableEq κ] {l : List κ} {k : κ} : (mor l k).length ≤ l.length + 1 := by
  unfold mor
  split
  · exact Nat.le_succ _
  · exact Nat.le_refl _
theorem nodup_mor {κ : Type} [DecidableEq κ] {l : List κ} {k : κ} (h : l.Nodup) : (mor l k).Nodup := by
  unfold mor
  split
  · exact h
  · exact List.nodup_cons.mpr ⟨by assumption, h⟩
def mors {κ : Type} [DecidableEq κ] (l ks : List κ) : List κ := ks.foldl mor l
theorem mem_mors {κ : Type} [DecidableEq κ] : ∀ {ks l : List κ} {y : κ}, y ∈ mors l ks ↔ y ∈ l ∨ y ∈ ks
  | [], l, y => by simp [mors]
  | k :: ks, l, y => by
    show y ∈ mors (mor l k) ks ↔ _
    rw [mem_mors, mem_mor, List.mem_cons, or_assoc]
theorem len_mors {κ : Type} [DecidableEq κ] : ∀ {ks l : List κ}, (mors l ks).length ≤ l.length + ks.length
  | [], l => Nat.le_refl _
  | k :: ks, l => by
    show (mors (mor l k) ks).length ≤ l.length + (ks.length + 1)
    have := len_mors (ks := ks) (l := mor l k)
    have := len_mor (l := l) (k := k)
    omega
theorem nodup_mors {κ : Type} [DecidableEq κ] : ∀ {ks l : List κ}, l.Nodup → (mors l ks).Nodup
  | [], l, h => h
  | k :: ks, l, h => nodup_mors (ks := ks) (l := mor l k) (nodup_mor h)
abbrev setNew (w : World) : Obj := { cls := .type "set", dict := none, data := .set #[] 0 (.fresh 0 0 (!w.params.followText "set-order")) }
structure SK (P : Program) (w : World) (κ : Type) [DecidableEq κ] where
  R : Heap → Addr → List κ → Prop
  mkv : κ → Tok → Value
  vv : κ → V
  rel : ∀ {k : κ} {y : Value}, RelV (vv k) y → ∃ u, y = mkv k u
  keep : ∀ {h h' : Heap} {a : Addr} {l : List κ}, R h a l → (∀ o, h.get? a = some o → h'.get? a = some o) → R h' a l
  len : ∀ {h : Heap} {a : Addr} {l : List κ}, R h a l → ∃ o es ep t, h.get? a = some o ∧ o.ExactSet ∧ o.data = .set es ep t ∧ t.fits es.size = true ∧ es.size = l.length ∧ es.size < scanBound
  fresh : ∀ {h : Heap} {a : Addr}, h.get? a = some (setNew w) → R h a []
  add : ∀ {A : Around} {E : Value → Shared → Prop} {s : Shared} {a : Addr} {l : List κ} {k : κ} {u : Tok} {Q : Bool → Shared → Prop}, R s.heap a l → l.length + 1 < scanBound →
    (∀ h' b, Heap.SameBut a s.heap h' → R h' a (mor l k) → Q b { s with heap := h', toks := s.toks + 1 }) → wpAny (model P w) A (setAdd a (mkv k u)) Q E s
theorem led_new (w : World) : w.params.followText "set-order" = true ∨ (SetTable.fresh 0 0 (!w.params.followText "set-order")).led = true := by
  show _ ∨ (!w.params.followText "set-order") = true
  cases w.params.followText "set-order" with
  | false => exact .inr rfl
  | true => exact .inl rfl
def strSK (P : Program) (w : World) : SK P w PySem.Str where
  R := SetS P w
  mkv := Value.str
  vv := V.str
  rel h := h
  keep h k := h.at k
  len h := by
    obtain ⟨D, e, F, nd, bl, _⟩ := h
    exact ⟨_, D.1, D.2.1, D.2.2, e, ⟨rfl, rfl, rfl⟩, rfl, F.fit, F.sz, by rw [F.sz]; exact bl⟩
  fresh h := ⟨(#[], 0, .fresh 0 0 (!w.params.followText "set-order")), h, TxOk.nil (by rfl), List.nodup_nil, by decide, List.Pairwise.nil, led_new w⟩
  add {A E s a l k u Q} R room hQ := by
    unfold setAdd
    refine wpAny_holding (wpAny_bind ((PySem.strKind P w).pyHash (is_str k u) ?_))
    exact addS_hashed (s := { s with toks := s.toks + 1 }) R room fun h' b sb r => hQ h' b sb r
def intSK (P : Program) (w : World) : SK P w Int where
  R h a l := l.Nodup ∧ SetR w h a (fun j => decide (j ∈ l)) l.length
  mkv := Value.int
  vv := V.int
  rel h := h
  keep h k := ⟨h.1, h.2.at k⟩
  len h := by
    obtain ⟨_, o, es, ep, t, ho, hex, hd, g, nd, hm, hb, hf, hn, _⟩ := h
    exact ⟨o, es, ep, t, ho, hex, hd, hf, hn, hb⟩
  fresh h := ⟨List.nodup_nil, _, #[], 0, _, h, ⟨rfl, rfl, rfl⟩, rfl, (fun e he => by simp at he), (by simp), (fun k => by simp), (by decide), (by rfl), rfl, List.Pairwise.nil, led_new w⟩
  add {A E s a l k u Q} R room hQ := by
    unfold setAdd
    refine wpAny_holding (wpAny_bind ((PySem.intKind P w).pyHash (intKind_is P w k u) ?_))
    refine setR_add_hashed (s := { s with toks := s.toks + 1 }) R.2 room fun h' sb r => hQ h' _ sb ⟨nodup_mor R.1, ?_⟩
    have e : (if decide (k ∈ l) = true then l.length else l.length + 1) = (mor l k).length := by
      unfold mor
      by_cases h : k ∈ l
      · rw [if_pos (decide_eq_true h), if_pos h]
      · rw [if_neg (by rw [decide_eq_false h]; exact Bool.false_ne_true), if_neg h]
        rfl
    rw [e] at r
    refine r.congr fun j => ?_
    rw [← Bool.decide_or]
    exact decide_eq_decide.mpr mem_mor
section
variable {P : Program} {w : World} {κ : Type} [DecidableEq κ] {N : SK P w κ} {A : Around} {E : Value → Shared → Prop} {s : Shared} {a : Addr} {l : List κ}
theorem SK.typ (h : N.R s.heap a l) : s.TypeIs (.ref a) "set" := by
  obtain ⟨o, es, ep, t, ho, hex, _⟩ := N.len h
  exact ⟨o, ho, hex.1⟩
theorem SK.addC {k : κ} {u : Tok} {Q : Value → Shared → Prop} (h : N.R s.heap a l) (room : l.length + 1 < scanBound)
    (hQ : ∀ h', Heap.SameBut a s.heap h' → N.R h' a (mor l k) → Q .none { s with heap := h', toks := s.toks + 1 }) : wpAny (model P w) A (call (.builtin "set.add") [.ref a, N.mkv k u]) Q E s := by
  refine wpAny_call_entry F.slot_set_add (SK.typ h) F.entry_set_add ?_ (F.args_set_add_2 _ _)
  unfold Builtin.«set.add» Builtin.Frozenset.oneOther
  simp only [List.isEmpty_nil, bind_assoc]
  unfold Builtin.Frozenset.addrOf
  refine wpAny_bind (wpAny_pure ?_)
  try dsimp only
  refine wpAny_bind (wpAny_pure ?_)
  try dsimp only
  refine wpAny_bind (N.add h room fun h' b sb r => ?_)
  show wpAny _ _ (ret Value.none) _ _ _
  exact wpAny_pure ⟨_, rfl, hQ h' sb r⟩
end
def SetH {P : Program} {w : World} {κ : Type} [DecidableEq κ] (N : SK P w κ) (a : Addr) (l : List κ) : HO := .ext fun h => N.R h a l
section
variable {X : Cx} {pins : List (Addr × Obj)} {σ : L2.St} {H : Hp} {s : Shared} {E : Value → Shared → Prop} {κ : Type} [DecidableEq κ] {D : Addr} {l : List κ}
theorem setH_new {P : Program} {w : World} {N : SK P w κ} {H : Hp} {h : Heap} {a : Addr} (R : N.R h a l) : ObjOk P w H h a (SetH N a l) :=
  ⟨R, by obtain ⟨o, _, _, _, e, _⟩ := N.len R; exact ⟨_, e⟩, fun h1 h2 r k => N.keep r k⟩
theorem setH_get {N : SK X.prog X.w κ} (I : Inv X pins σ H s) (h : H D = some (SetH N D l)) : N.R s.heap D l := (I.hok D _ h).1
theorem addH_ok {P : Program} {w : World} {N : SK P w κ} (hp : X.prog = P) (hw : X.w = w) {k : κ} {u : Tok} {Q : Value → Shared → Prop} (I : Inv X pins σ H s) (hD : H D = some (SetH N D l)) (room : l.length + 1 < scanBound)
    (h : ∀ s', Inv X pins σ (upd H D (SetH N D (mor l k))) s' → Q .none s') : wpAny (model X.prog X.w) X.A (call (.builtin "set.add") [.ref D, N.mkv k u]) Q E s := by
  subst hp
  subst hw
  refine SK.addC (setH_get I hD) room fun h' sb new => ?_
  have there : ∃ o, h'.get? D = some o := by
    obtain ⟨o, _, _, _, e, _⟩ := N.len new
    exact ⟨_, e⟩
  exact h _ (I.write (e := D) (t' := s.toks + 1) (by rw [hD]; trivial) (.inl rfl) (fun b o hb hu => (sb.2 b hb).trans hu) there (setH_new new))
end
end Z
set_option maxRecDepth 100000
set_option maxHeartbeats 4000000
namespace Z
open PySem PySem.Spec PyProof.Rows L2 PySem.Froz
section
variable {X : Cx} {κ : Type} [DecidableEq κ]
def tScH {P : Program} {w : World} (N : SK P w κ) (wi : TI) (g : TG) (tt : TT) (te : TE) (vs : List Nat) : TE := fun σ H Q => wi σ H fun J H1 => ∀ D, H1 D = none → ∃ W : Nat → Nat → Hp → Prop, (∃ m, W 0 m (upd H1 D (SetH N D []))) ∧ ∀ i m H, W i m H →
  (J.stop i H ∧ Q (.ref D) H) ∨ (J.go i H ∧ ∃ Nx : Hp → Prop, (∀ H', Nx H' → ∃ m', m' < m ∧ W (i + 1) m' H') ∧ ∀ x H', J.yld i H x H' → g x (wipe σ vs) H' fun σ2 H2 => wipe σ2 vs = wipe σ vs ∧ tt σ2 H2 fun b H3 =>
    if b = true then te σ2 H3 fun y H4 => ∃ (k : κ) (l : List κ), y = N.vv k ∧ H4 D = some (SetH N D l) ∧ l.length + 1 < scanBound ∧ Nx (upd H4 D (SetH N D (mor l k))) else Nx H3)
theorem sch_core {P : Program} {w : World} (N : SK P w κ) (hP : X.prog = P) (hw : X.w = w) {pins : List (Addr × Obj)} {s : Shared} {σ : L2.St} {H : Hp} {Q : VK} {elt tg iter : Expr} {ifs : List Expr} {scope : Scope} {own : List (PySem.Str × Nat)} {pos pos' : Pos} {wi : TI} {g : TG} {tt : TT} {te : TE} {use : Option (Value → Sem Unit)} {Qf : Value → Shared → Prop}
    (calm : X.calm = true) (nd : X.N.Nodup) (I : Inv X pins σ H s) (di : PI X tg iter wi) (ok : BlkOk X.N X.env.scope scope own)
    (dg : ∀ (s : Shared) (H : Hp) (C : Addr) (cl : List (PySem.Str × Addr)) (fp : List Addr), PG (X.blk s H scope (compEnvC scope cl C X.env) fp) tg g) (dt : ∀ (s : Shared) (H : Hp) (C : Addr) (cl : List (PySem.Str × Addr)) (fp : List Addr), PTs (X.blk s H scope (compEnvC scope cl C X.env) fp) ifs tt)
    (de : ∀ (s : Shared) (H : Hp) (C : Addr) (cl : List (PySem.Str × Addr)) (fp : List Addr), PE (X.blk s H scope (compEnvC scope cl C X.env) fp) elt te) (un : ∀ x, foldedSetIterable iter X.env x = pure x)
    (h : tScH N wi g tt te (own.map (·.2)) σ H Q)
    (hR : ∀ D C s' m H', Inv X pins σ H' s' → Q (.ref D) H' → s'.heap.Ns C m → FpOk X pins H' C → compPost (model X.prog X.w) X.A X.xe use Qf (.ref D) C (.ok .next) s') :
    wpAny (model X.prog X.w) X.A (comprehension (.SetComp elt [⟨tg, iter, ifs, 0⟩] scope pos) scope X.env pos' (newSet (.type "set")) false (eval iter X.env) use) Qf X.xe s := by
  have free : ∀ y ∈ scope.names, y.2 = .free → ∃ c, X.env.cells.lookup y.1 = some c := fun y hy e =>
    (ok.free y hy e).elim (fun k => I.ok.has _ (.inl k)) fun k => I.ok.has _ (.inr k)
  refine wpAny_comprehension_free (use := use) rfl un (closure_ok free) ok.kind (fun y hy e => by rw [ok.uniq y hy, e])
    (thn (di.run pins s σ H _ I h) fun xv sa ha => thn ha fun itv sb hb => ?_)
  obtain ⟨it, fp, tn, J, Hb, e, Ib, T, stb, fb, q⟩ := hb
  subst e
  refine PpSet.newSet_ok (newEnv_comp ?_)
  generalize eD : sb.heap.objs.size = D
  have nD : Hb D = none := Ib.hok.fresh (Nat.le_of_eq eD)
  obtain ⟨W, ⟨m0, w0⟩, turn⟩ := q D nD
  generalize ec : ({ sb with heap := sb.heap.push (setNew X.w) } : Shared) = sc
  have hc3 : sc.heap = sb.heap.push (setNew X.w) := by rw [← ec]
  have Ic : Inv X pins σ (upd Hb D (SetH N D [])) sc := by
    rw [← ec]
    refine Ib.laid (t' := sb.toks) (fun b o e => Heap.get?_push_of_some _ e) (Nat.le_of_eq eD) ?_
    subst hw
    subst hP
    rw [← eD]
    exact setH_new (N.fresh (Heap.get?_push_size _ rfl))
  have small : ∀ b ∈ fp, b < sb.heap.objs.size := fun b hb => by
    obtain ⟨o, e, _⟩ := T.obj _ _ stb b hb
    exact Heap.lt_size e
  have fc : ∀ b ∈ fp, FpOk X pins (upd Hb D (SetH N D [])) b ∧ b < sc.heap.objs.size := fun b hb => by
    have lt := small b hb
    refine ⟨⟨?_, (fb b hb).2⟩, by rw [hc3, Heap.size_push]; exact Nat.lt_succ_of_lt lt⟩
    rw [upd_ne (by rw [← eD]; exact Nat.ne_of_lt lt)]
    exact (fb b hb).1
  have stc : tn 0 sc.heap := T.keep _ _ _ stb fun b _ o e => by rw [hc3]; exact Heap.get?_push_of_some _ e
  have Id := block_start Ic ok nd fc
  have pg := dg sc (upd Hb D (SetH N D [])) sc.heap.objs.size (cellsFrom (sc.heap.objs.size + 1) scope.names (cloFrom X.env.cells scope.names [])) fp
  have pt := dt sc (upd Hb D (SetH N D [])) sc.heap.objs.size (cellsFrom (sc.heap.objs.size + 1) scope.names (cloFrom X.env.cells scope.names [])) fp
  have pe := de sc (upd Hb D (SetH N D [])) sc.heap.objs.size (cellsFrom (sc.heap.objs.size + 1) scope.names (cloFrom X.env.cells scope.names [])) fp
  show codeAny _ _ (.compStart (.SetComp elt [⟨tg, iter, ifs, 0⟩] scope pos) 0 (.ref it) (.ref D) (compEnvC scope (cellsFrom (sc.heap.objs.size + 1) scope.names (cloFrom X.env.cells scope.names [])) sc.heap.objs.size X.env)) (compPost (model X.prog X.w) X.A X.xe use Qf (.ref D) sc.heap.objs.size) { sc with heap := pushCells (sc.heap.push { cls := .type "dict", data := .dict #[] }) scope.names }
  have nfp : ∀ b ∈ fp, (upd Hb D (SetH N D [])) b = none := fun b hb => (fc b hb).1.1
  generalize ece : compEnvC scope (cellsFrom (sc.heap.objs.size + 1) scope.names (cloFrom X.env.cells scope.names [])) sc.heap.objs.size X.env = ce at Id pg pt pe ⊢
  have locs : ce.locals = sc.heap.objs.size := by subst ece; rfl
  generalize eHc : upd Hb D (SetH N D []) = Hc at Ic Id pg pt pe w0 nfp fc
  generalize ed : ({ sc with heap := pushCells (sc.heap.push { cls := .type "dict", data := .dict #[] }) scope.names } : Shared) = sd at Id ⊢
  have std : tn 0 sd.heap := T.keep _ _ _ stc fun b _ o e => by rw [← ed]; exact pushCells_keeps _ _ _ _ (Heap.get?_push_of_some _ e)
  have stat : ∀ {σ' : L2.St} {H' : Hp} {s' : Shared}, Inv (X.blk sc Hc scope ce fp) [] σ' H' s' → (∀ b ∈ fp, H' b = none) → ∀ b ∈ fp, FpOk (X.blk sc Hc scope ce fp) [] H' b := fun {σ' H' s'} I' hn b hb =>
    ⟨hn b hb, (I'.ok.exf b hb).1, I'.ok.exfs b hb, .inl hb, fun x c e => (I'.ok.exf b hb).2 x c e, fun p hp => absurd (show p ∈ ([] : List (Addr × Obj)) ++ [] from hp) (by simp)⟩
  refine PpSet.codeAny_compStart_set ?lp (T.self X.A 0 _ _ _ std ?lp)
  case lp =>
    refine PpSet.compLoopS_any (fun n s' => ∃ i H', Inv (X.blk sc Hc scope ce fp) [] (wipe σ (own.map (·.2))) H' s' ∧ tn i s'.heap ∧ (∀ b ∈ fp, H' b = none) ∧ W i n H') ?_ m0 ⟨0, Hc, Id, std, nfp, w0⟩
    rintro n se ⟨i, He, Ie, ste, ne, we⟩
    rcases turn i n He we with ⟨stop, qq⟩ | ⟨go, Nx, hNx, step⟩
    · refine thnF (T.done (X.blk sc Hc scope ce fp) rfl rfl rfl calm i [] se _ He (fun _ _ => False) Ie (stat Ie ne) ste stop) fun r sf ⟨hr, If⟩ => ?_
      subst hr
      have Ig : Inv X pins σ He sf := Ic.call' (ch := fp) If.os If.base If.hok If.bare fun b hb => ⟨(fc b hb).1.2.2.2.1, (fc b hb).1.2.1, (fc b hb).1.2.2.2.2.1, (fc b hb).1.2.2.2.2.2⟩
      have nC : He sc.heap.objs.size = none := by
        have z : He ce.locals = none := If.free
        rwa [locs] at z
      obtain ⟨m, hn, _⟩ := If.loc
      have hn : sf.heap.Ns ce.locals m := hn
      rw [locs] at hn
      exact hR D sc.heap.objs.size sf m He Ig qq hn (Ic.fpOk (Nat.le_refl _) nC)
    · refine thnF (T.item (X.blk sc Hc scope ce fp) rfl rfl rfl calm i [] se _ He (fun _ _ => False) Ie (stat Ie ne) ste go) fun r sf ⟨u, hr, hf⟩ => ?_
      subst hr
      refine thnF hf fun _ sg ⟨x, Hg, Ig, rg, yg, stg, ng⟩ => ?_
      have Ig' := Ig.pinned (stat Ig ng) (T.obj _ _ stg)
      refine thnF (pg.run _ sg _ Hg x u _ Ig' rg (step x Hg yg)) fun _ sh ⟨σh, Hh, Ih, hwh, qh⟩ => ?_
      refine thnF (pt.run _ sh σh Hh _ Ih qh) fun b si ⟨Hi, Ii, qi⟩ => ?_
      have fin : ∀ {s' : Shared} {H' : Hp}, Inv (X.blk sc Hc scope ce fp) ([] ++ pinsAt fp sg.heap) σh H' s' → Nx H' → ∃ m, m < n ∧ ∃ i H', Inv (X.blk sc Hc scope ce fp) [] (wipe σ (own.map (·.2))) H' s' ∧ tn i s'.heap ∧ (∀ b ∈ fp, H' b = none) ∧ W i m H' := fun {s' H'} I' nx => by
        obtain ⟨m', hm, w'⟩ := hNx H' nx
        have pinned : ∀ b ∈ fp, ∀ o, sg.heap.get? b = some o → s'.heap.get? b = some o ∧ H' b = none := fun b hb o e =>
          let z := I'.pin (b, o) (List.mem_append_right _ (List.mem_append_right _ (mem_pinsAt hb e)))
          ⟨z.1, z.2.1⟩
        have hl : (wipe σ (own.map (·.2))).length = σh.length := by rw [← hwh, wipe_length]
        refine ⟨m', hm, i + 1, H', (I'.unpinned (pins := [])).weak hl (fun j v e => ?_), T.keep _ _ _ stg fun b hb o e => (pinned b hb o e).1, fun b hb => ?_, w'⟩
        · rw [← hwh] at e
          exact (wipe_some e).1
        · obtain ⟨o, e, _⟩ := T.obj _ _ stg b hb
          exact (pinned b hb o e).2
      cases b with
      | false =>
        simp only [Bool.false_eq_true, if_false] at qi ⊢
        exact fin Ii qi
      | true =>
        simp only [if_true] at qi ⊢
        refine thnF (pe.run _ si σh Hi _ Ii qi) fun z sj ⟨yv, Hj, Ij, rj, k, l, ey, hDj, room, nx⟩ => ?_
        subst ey
        obtain ⟨u', rfl⟩ := N.rel rj
        exact addH_ok (X := X.blk sc Hc scope ce fp) hP hw Ij hDj room fun sk Ik => fin Ik nx
theorem pe_scH {P : Program} {w : World} (N : SK P w κ) {elt tg iter : Expr} {ifs : List Expr} {scope : Scope} {own : List (PySem.Str × Nat)} {pos : Pos} {wi : TI} {g : TG} {tt : TT} {te : TE} (calm : X.calm = true) (nd : X.N.Nodup) (di : PI X tg iter wi) (ok : BlkOk X.N X.env.scope scope own)
    (dg : ∀ (s : Shared) (H : Hp) (C : Addr) (cl : List (PySem.Str × Addr)) (fp : List Addr), PG (X.blk s H scope (compEnvC scope cl C X.env) fp) tg g) (dt : ∀ (s : Shared) (H : Hp) (C : Addr) (cl : List (PySem.Str × Addr)) (fp : List Addr), PTs (X.blk s H scope (compEnvC scope cl C X.env) fp) ifs tt)
    (de : ∀ (s : Shared) (H : Hp) (C : Addr) (cl : List (PySem.Str × Addr)) (fp : List Addr), PE (X.blk s H scope (compEnvC scope cl C X.env) fp) elt te) (hP : X.prog = P := by rfl) (hw : X.w = w := by rfl) (un : ∀ x, foldedSetIterable iter X.env x = pure x := by intro _; rfl) :
    PE X (.SetComp elt [⟨tg, iter, ifs, 0⟩] scope pos) (tScH N wi g tt te (own.map (·.2))) := by
  refine ⟨fun pins s σ H Q I h => ?_⟩
  rw [PpSet.eval_SetComp]
  refine sch_core N hP hw calm nd I di ok dg dt de un h fun D C s' m H' I' q hn f => ⟨m, hn, fun h'' sb => ?_⟩
  obtain ⟨f0, f1, f2, f3, f4, f5⟩ := f
  exact ⟨.ref D, H', I'.turned (t' := s'.toks) (fun b o hb e => (sb.2 b hb).trans e) f0 f1 f3 f4 f5, rfl, q⟩
theorem sch_it {P : Program} {w : World} {N : SK P w κ} {J : It} {n : Nat} {G : Hp → Prop} {Y : Nat → Hp → V → Hp → Prop} (wk : Walk J n G Y) {g : TG} {tt : TT} {te : TE} {vs : List Nat} {σ : L2.St} {H1 : Hp} {D : Addr} {Qd : Hp → Prop} (Pv : Nat → Hp → Prop) (h0 : Pv 0 (upd H1 D (SetH N D []))) (hG : ∀ i H, i ≤ n → Pv i H → G H)
    (hs : ∀ i x H H', i < n → Pv i H → Y i H x H' → g x (wipe σ vs) H' fun σ2 H2 => wipe σ2 vs = wipe σ vs ∧ tt σ2 H2 fun b H3 =>
      if b = true then te σ2 H3 fun y H4 => ∃ (k : κ) (l : List κ), y = N.vv k ∧ H4 D = some (SetH N D l) ∧ l.length + 1 < scanBound ∧ Pv (i + 1) (upd H4 D (SetH N D (mor l k))) else Pv (i + 1) H3) (hd : ∀ H, Pv n H → Qd H) :
    ∃ W : Nat → Nat → Hp → Prop, (∃ m, W 0 m (upd H1 D (SetH N D []))) ∧ ∀ i m H, W i m H →
      (J.stop i H ∧ Qd H) ∨ (J.go i H ∧ ∃ Nx : Hp → Prop, (∀ H', Nx H' → ∃ m', m' < m ∧ W (i + 1) m' H') ∧ ∀ x H', J.yld i H x H' → g x (wipe σ vs) H' fun σ2 H2 => wipe σ2 vs = wipe σ vs ∧ tt σ2 H2 fun b H3 =>
        if b = true then te σ2 H3 fun y H4 => ∃ (k : κ) (l : List κ), y = N.vv k ∧ H4 D = some (SetH N D l) ∧ l.length + 1 < scanBound ∧ Nx (upd H4 D (SetH N D (mor l k))) else Nx H3) := by
  refine ⟨fun i m H => m = n - i ∧ i ≤ n ∧ Pv i H, ⟨n, by simp, Nat.zero_le _, h0⟩, ?_⟩
  rintro i m H ⟨rfl, hi, p⟩
  have q := hG i H hi p
  rcases Nat.lt_or_ge i n with lt | ge
  · exact .inr ⟨wk.goes i H lt q, Pv (i + 1), fun H' p' => ⟨n - (i + 1), by omega, rfl, lt, p'⟩, fun x H' y => hs i x H H' lt p (wk.yields i H x H' lt q y)⟩
  · obtain rfl : i = n := by omega
    exact .inl ⟨wk.stops H q, hd H p⟩
end
end Z
set_option maxRecDepth 100000
set_option maxHeartbeats 4000000
namespace Z
open PySem PySem.Spec PyProof.Rows L2 PySem.Froz
section
variable {P : Program} {w : World} {κ : Type} [DecidableEq κ] {N : SK P w κ}
section
variable {A : Around} {I : Addr} {fp wr : List Addr} {G : Array GenState → Array GenState → Prop} {n : Nat} {Pv : Nat → Value → Prop} {St : Nat → Shared → Prop} {R : Result → Shared → Prop}
theorem upd_loop (W : WalksS P w A.in1 I fp wr G n Pv St) (D : Addr) (nf : D ∉ fp) (ks : List κ) (hn : ks.length = n) (room : ks.length + 1 < scanBound) (val : ∀ i v, Pv i v → ∃ k u, ks[i]? = some k ∧ v = N.mkv k u) :
    ∀ (m i : Nat) (s : Shared), n - i = m → i ≤ n → St i s → N.R s.heap D (mors [] (ks.take i)) →
      (∀ s', Moved (D :: wr) G s s' → N.R s'.heap D (mors [] ks) → R (.ok (.ret .none)) s') → codeAny (model P w) A (.builtin "set.update.loop" ⟨[.ref D, .ref I], []⟩) R s
  | 0, i, s, hm, hi, st, hS, k => by
    obtain rfl : i = n := by omega
    refine codeAny_builtin PyProof.Rows.F.entry_set_update_loop ?_
    rw [Around.under_plainId PyProof.Rows.F.plain_set_update_loop _]
    show wpAny _ A.in1 (pyNext (.ref I) >>= _) _ _ s
    refine wpAny_bind (W.done s _ _ st fun s' mv => ?_)
    show wpAny _ A.in1 (ret Value.none) _ _ s'
    rw [← hn, List.take_length] at hS
    exact wpAny_pure (k s' (mv.mono fun b hb => List.mem_cons_of_mem _ hb) (N.keep hS fun o e => mv.heap D _ (fun z => nf (W.sub _ z)) e))
  | m + 1, i, s, hm, hi, st, hS, k => by
    have lt : i < n := by omega
    refine codeAny_builtin PyProof.Rows.F.entry_set_update_loop ?_
    rw [Around.under_plainId PyProof.Rows.F.plain_set_update_loop _]
    show wpAny _ A.in1 (pyNext (.ref I) >>= _) _ _ s
    refine wpAny_bind (W.item i s _ _ lt st fun v s' hP st' mv => ?_)
    obtain ⟨x, u, hx, rfl⟩ := val i v hP
    have hS' : N.R s'.heap D (mors [] (ks.take i)) := N.keep hS fun o e => mv.heap D _ (fun z => nf (W.sub _ z)) e
    show wpAny _ A.in1 (holding [N.mkv x u] (setAdd D (N.mkv x u)) >>= _) _ _ s'
    have few : (mors [] (ks.take i)).length + 1 < scanBound := by
      have h1 := len_mors (l := []) (ks := ks.take i)
      have h2 : (ks.take i).length ≤ ks.length := by rw [List.length_take]; exact Nat.min_le_right ..
      simp only [List.length_nil] at h1
      omega
    refine wpAny_bind (wpAny_holding (N.add hS' few fun h' b sb hN => ?_))
    have step : mor (mors [] (ks.take i)) x = mors [] (ks.take (i + 1)) := by
      unfold mors
      rw [List.take_succ, hx]
      show _ = List.foldl mor [] (ks.take i ++ [x])
      rw [List.foldl_append]
      rfl
    rw [step] at hN
    refine wpAny_pure ⟨plainId_quiet PyProof.Rows.F.plain_set_update_loop _, upd_loop W D nf ks hn room val m (i + 1) _ (by omega) lt (W.frame _ s' _ _ st' (Nat.le_succ _) fun c hc o e => ?_) hN fun s2 mv2 hN2 => ?_⟩
    · rw [sb.2 c fun z => nf (by rw [← z]; exact hc)]
      exact e
    · refine k s2 (Moved.trans W.gtrans ((mv.mono fun b hb => List.mem_cons_of_mem _ hb).then_heap (Nat.le_succ _) fun c o hc e => ?_) mv2) hN2
      rw [sb.2 c fun z => hc (by rw [z]; exact List.mem_cons_self)]
      exact e
end
section
variable {A : Around} {E : Value → Shared → Prop} {s : Shared}
set_option maxHeartbeats 8000000 in
theorem set_from {l : Addr} {items : Array Value} {ks : List κ} {Q : Value → Shared → Prop} (calm : A.handled = none) (hl : s.heap.IsList l items ∨ s.heap.IsTuple l items) (hn : ks.length = items.size)
    (val : ∀ (i : Nat) (v : Value), items[i]? = some v → ∃ k u, ks[i]? = some k ∧ v = N.mkv k u) (room : ks.length + 1 < scanBound)
    (k : ∀ (h' : Heap) (tk : Nat), N.R h' s.heap.objs.size (mors [] ks) → (∀ b o, s.heap.get? b = some o → h'.get? b = some o) → Q (.ref s.heap.objs.size) { s with heap := h', toks := tk }) :
    wpAny (model P w) A (call (.type "set") [.ref l]) Q E s := by
  obtain ⟨cc, tl, mro⟩ := PySem.F.called_set.mro
  have made := PySem.F.called_set.made
  have subs := PySem.F.called_set.sub
  refine wpAny_call (codeAny_of_tree ?_)
  show wpAny _ _ (callAny (.type "set") _) _ _ _
  refine wpAny_pure ⟨Code.quiet_builtin _ (by decide +kernel), codeAny_builtin PySem.F.entry_type_call ?_⟩
  rw [Around.under_plain (weight_type_call_type "set" [.ref l] []) rfl]
  have nT := PySem.F.called_set.notType
  have can := PySem.F.called_set.canCreate
  have tc := PySem.F.typeCall_set_1 (.ref l)
  repeat (any_goals (first | assumption | wp_step))
  refine codeAny_mono (code_set_led1 (.ref l) (E := E) (Q₁ := fun obj s₁ => obj = .ref s.heap.objs.size ∧ s₁ = { s with heap := s.heap.push (setNew w) }) ⟨rfl, rfl⟩) fun r s₁ hr => ?_
  match r, hr with
  | .error e, hr => exact hr
  | .ok .next, hr => exact hr.elim
  | .ok .brk, hr => exact hr.elim
  | .ok .cont, hr => exact hr.elim
  | .ok (.ret obj), hr =>
    obtain ⟨rfl, rfl⟩ := hr
    have atD : (s.heap.push (setNew w)).get? s.heap.objs.size = some (setNew w) := Heap.get?_push_size _ rfl
    have isT : Shared.TypeIs { s with heap := s.heap.push (setNew w) } (.ref s.heap.objs.size) "set" := ⟨_, atD, rfl⟩
    have li := PySem.F.called_set.init.lookup
    have bi := PySem.F.called_set.init.bind (.ref s.heap.objs.size)
    repeat (any_goals (first | assumption | wp_step))
    refine codeAny_mono (codeAny_call_builtin (R := wants (fun r s₂ => r = .none ∧ ∃ h' tk, s₂ = { s with heap := h', toks := tk } ∧ N.R h' s.heap.objs.size (mors [] ks) ∧ (∀ b o, s.heap.get? b = some o → h'.get? b = some o)) E) PySem.F.called_set.init.plain PySem.F.entry_set_init (check_set_init_1 isT ?_)) fun r₂ s₂ hr₂ => ?_
    · have hz1 : (s.heap.push (setNew w)).objs.size = s.heap.objs.size + 1 := Heap.size_push ..
      have calm3 : A.in1.in1.in1.handled = none := by simp [calm]
      have rest : ∀ {T : String} {s3 : Shared} {St : Nat → Shared → Prop} {wr fp : List Addr} {G : Array GenState → Array GenState → Prop}, (∀ b ∈ fp, b = s.heap.objs.size + 1 ∨ b = l) → (∀ b ∈ wr, b = s.heap.objs.size + 1) →
          WalksS P w A.in1.in1.in1 (s.heap.objs.size + 1) fp wr G items.size (fun i v => items[i]? = some v) St → (∀ a b, G a b → b = a) →
          s3 = { s with heap := (s.heap.push (setNew w)).push { cls := .type T, data := .fields #[.ref l, .int 0 0] } } → St 0 s3 → l < s.heap.objs.size →
          codeAny (model P w) A.in1.in1 (.builtin "set.update.loop" ⟨[.ref s.heap.objs.size, .ref (s.heap.objs.size + 1)], []⟩) (fun r s' => r = .ok (.ret .none) ∧ ∃ h' tk, s' = { s with heap := h', toks := tk } ∧ N.R h' s.heap.objs.size (mors [] ks) ∧ (∀ b o, s.heap.get? b = some o → h'.get? b = some o)) s3 := by
        intro T s3 St wr fp G hfp hwr W hG e3 st ll
        refine upd_loop W s.heap.objs.size (fun z => (hfp _ z).elim (fun z => Nat.ne_of_lt (Nat.lt_succ_self _) z) fun z => Nat.ne_of_gt ll z) ks hn room (fun i v h => val i v h) (items.size - 0) 0 s3 (by omega) (Nat.zero_le _) st ?_ fun s' mv hN => ?_
        · rw [e3]
          exact N.fresh (Heap.get?_push_of_some _ atD)
        · obtain ⟨h', g', d', tk', os'⟩ := s'
          subst e3
          have eg : g' = s.gens := hG _ _ mv.gens
          have ed : d' = s.drawn := mv.drawn
          have eo : os' = s.os := mv.os
          subst eg; subst ed; subst eo
          refine ⟨rfl, h', tk', rfl, hN, fun b o e => ?_⟩
          have lb := Heap.lt_size e
          refine mv.heap b o (fun z => ?_) (Heap.get?_push_of_some _ (Heap.get?_push_of_some _ e))
          rcases List.mem_cons.mp z with z | z
          · exact Nat.ne_of_lt lb z
          · exact Nat.ne_of_lt (Nat.lt_succ_of_lt lb) (hwr b z)
      rcases hl with hl | hl
      · obtain ⟨ol, hol, hcl, nl, hdl⟩ := hl
        obtain ⟨ocls, odict, odata, oslots⟩ := ol
        simp only at hcl hdl
        subst hcl; subst hdl
        have ol' : (s.heap.push (setNew w)).get? l = some { cls := .type "list", dict := odict, data := .seq items nl, slots := oslots } := Heap.get?_push_of_some _ hol
        have sls := PySem.F.sub_list_set
        have slf := PySem.F.sub_list_frozenset
        have ndict : (Value.type "list" == Value.type "dict") = false := by decide
        have isl : (s.heap.push (setNew w)).IsList l items := ⟨_, ol', rfl, nl, rfl⟩
        have ll : l < s.heap.objs.size := Heap.lt_size hol
        unfold Builtin.«set.__init__» noKeywords Builtin.Frozenset.updateFrom
        generalize ePI : pyIter = PI
        wp_walk
        subst ePI
        refine wpAny_pyIter_list isl ?_
        rw [hz1]
        have nI : l ≠ s.heap.objs.size + 1 := Nat.ne_of_lt (Nat.lt_succ_of_lt ll)
        refine wpAny_bind (wpAny_runValue (codeAny_mono (rest (T := "list_iterator") (fun b hb => ?_) (fun b hb => ?_) ((Walks.list calm3 _ l nI items).toS) ?_ rfl ⟨⟨_, by rw [← hz1]; exact Heap.get?_push_size _ rfl, rfl, rfl⟩, isl.push _⟩ ll) fun r s' ⟨er, h', tk, es, hN, old⟩ => ?_))
        · simp only [List.mem_cons, List.not_mem_nil, or_false] at hb
          exact hb
        · exact List.mem_singleton.mp hb
        · exact fun a b h => h
        · subst er
          subst es
          refine wpAny_pure ?_
          show wpAny _ _ (ret Value.none) _ _ _
          exact wpAny_pure ⟨rfl, h', tk, rfl, hN, old⟩
      · obtain ⟨ol, hol, hcl, nl, hdl⟩ := hl
        obtain ⟨ocls, odict, odata, oslots⟩ := ol
        simp only at hcl hdl
        subst hcl; subst hdl
        have ol' : (s.heap.push (setNew w)).get? l = some { cls := .type "tuple", dict := odict, data := .seq items nl, slots := oslots } := Heap.get?_push_of_some _ hol
        have sls := PySem.F.sub_tuple_set
        have slf := PySem.F.sub_tuple_frozenset
        have ndict : (Value.type "tuple" == Value.type "dict") = false := by decide
        have isl : (s.heap.push (setNew w)).IsTuple l items := ⟨_, ol', rfl, nl, rfl⟩
        have ll : l < s.heap.objs.size := Heap.lt_size hol
        unfold Builtin.«set.__init__» noKeywords Builtin.Frozenset.updateFrom
        generalize ePI : pyIter = PI
        wp_walk
        subst ePI
        refine wpAny_pyIter_tuple isl ?_
        rw [hz1]
        have nI : l ≠ s.heap.objs.size + 1 := Nat.ne_of_lt (Nat.lt_succ_of_lt ll)
        refine wpAny_bind (wpAny_runValue (codeAny_mono (rest (T := "tuple_iterator") (fun b hb => ?_) (fun b hb => ?_) ((Walks.tuple calm3 _ l nI items).toS) ?_ rfl ⟨⟨_, by rw [← hz1]; exact Heap.get?_push_size _ rfl, rfl, rfl⟩, isl.push _⟩ ll) fun r s' ⟨er, h', tk, es, hN, old⟩ => ?_))
        · simp only [List.mem_cons, List.not_mem_nil, or_false] at hb
          exact hb
        · exact List.mem_singleton.mp hb
        · exact fun a b h => h
        · subst er
          subst es
          refine wpAny_pure ?_
          show wpAny _ _ (ret Value.none) _ _ _
          exact wpAny_pure ⟨rfl, h', tk, rfl, hN, old⟩
    · match r₂, hr₂ with
      | .error e, hr₂ => exact hr₂
      | .ok .next, hr₂ => exact hr₂.elim
      | .ok .brk, hr₂ => exact hr₂.elim
      | .ok .cont, hr₂ => exact hr₂.elim
      | .ok (.ret r), hr₂ =>
        obtain ⟨rfl, h', tk, rfl, hN, old⟩ := hr₂
        repeat (any_goals (first | assumption | wp_step))
        exact k _ _ hN old
end
end
end Z
set_option maxRecDepth 100000
set_option maxHeartbeats 4000000
namespace Z
open PySem PySem.Spec PyProof.Rows L2 PySem.Froz
section
variable {X : Cx} {κ : Type} [DecidableEq κ]
structure rSetOf {P : Program} {w : World} (N : SK P w κ) (K : PySem.W.Frag) (xs : List V) (H : Hp) (Q : VK) : Prop where
  h : ∃ a ks, xs = [.ref a] ∧ (SqL K H a (ks.map N.vv) ∨ SqT K H a (ks.map N.vv)) ∧ ks.length + 1 < scanBound ∧ ∀ p, H p = none → Q (.ref p) (upd H p (SetH N p (mors [] ks)))
theorem setOf {P : Program} {w : World} {N : SK P w κ} {K : PySem.W.Frag} {H : Hp} {Q : VK} {a : Addr} {ks : List κ} (h : SqL K H a (ks.map N.vv) ∨ SqT K H a (ks.map N.vv)) (few : ks.length + 1 < scanBound)
    (q : ∀ p H1, H p = none → Same H H1 → H1 p = some (SetH N p (mors [] ks)) → Q (.ref p) H1) : rSetOf N K [.ref a] H Q := ⟨a, ks, rfl, h, few, fun p np => q p _ np (sNew np) upd_same⟩
theorem vals_ks {P : Program} {w : World} {N : SK P w κ} {ks : List κ} {its : List Value} (r : Vals (ks.map N.vv) its) : ks.length = its.toArray.size ∧ ∀ (i : Nat) (v : Value), its.toArray[i]? = some v → ∃ k u, ks[i]? = some k ∧ v = N.mkv k u := by
  have hl := r.length
  rw [List.length_map] at hl
  refine ⟨by rw [List.size_toArray]; exact hl, fun i v hv => ?_⟩
  rw [List.getElem?_toArray] at hv
  have hi : i < ks.length := by rw [hl]; exact (List.getElem?_eq_some_iff.mp hv).1
  have g : (ks.map N.vv)[i]? = some (N.vv ks[i]) := by rw [List.getElem?_map, List.getElem?_eq_getElem hi]; rfl
  obtain ⟨u, z1, z2⟩ := r.get g
  rw [hv] at z1
  cases z1
  obtain ⟨t, e⟩ := N.rel z2
  exact ⟨ks[i], t, List.getElem?_eq_getElem hi, e⟩
theorem call_setOf {P : Program} {w : World} (N : SK P w κ) {K : PySem.W.Frag} (calm : X.calm = true) (hP : X.prog = P := by rfl) (hw : X.w = w := by rfl) (hK : X.K = K := by rfl) : CallR X (.type "set") (rSetOf N K) := by
  subst hP
  subst hw
  subst hK
  intro pins s σ H xs us Q I r h
  obtain ⟨a, ks, rfl, hs, few, q⟩ := h.h
  rw [Vals.ref1 r]
  have fin : ∀ {its : List Value}, Vals (ks.map N.vv) its → (s.heap.IsList a its.toArray ∨ s.heap.IsTuple a its.toArray) → wpAny (model X.prog X.w) X.A (call (.type "set") [.ref a]) (EP X pins σ Q) X.xe s := fun {its} rv hl => by
    obtain ⟨h1, h2⟩ := vals_ks rv
    refine set_from (N := N) (I.ok.hd calm) hl h1 h2 few fun h' tk hN old => ?_
    exact ⟨.ref _, upd H s.heap.objs.size (SetH N s.heap.objs.size (mors [] ks)), I.laid (t' := tk) old (Nat.le_refl _) (setH_new hN), rfl, q _ (I.hok.fresh (Nat.le_refl _))⟩
  rcases hs with hs | hs
  · obtain ⟨its, rv, pl, _⟩ := I.list hs
    exact fin rv (.inl pl.isList)
  · obtain ⟨its, rv, pl, _⟩ := I.tuple hs
    exact fin rv (.inr pl)
def rLenH {P : Program} {w : World} (N : SK P w κ) : List V → Hp → VK → Prop := fun xs H Q => ∃ a l, xs = [.ref a] ∧ H a = some (SetH N a l) ∧ Q (.int l.length) H
theorem call_lenH {P : Program} {w : World} (N : SK P w κ) (hP : X.prog = P := by rfl) (hw : X.w = w := by rfl) : CallR X (.builtin "len") (rLenH N) := by
  subst hP
  subst hw
  intro pins s σ H xs us Q I r ⟨a, l, e, ha, q⟩
  subst e
  rw [Vals.ref1 r]
  obtain ⟨o, es, ep, t, ho, hex, hd, hf, hn, hb⟩ := N.len (setH_get I ha)
  refine call_len_set ho hex hd hf (by unfold scanBound at hb; omega) ⟨.int l.length, H, I.tok _, ⟨_, by rw [hn]⟩, q⟩
end
section
variable {X : Cx}
theorem le_cover {α : Type} [DecidableEq α] : ∀ {l m : List α}, l.Nodup → (∀ y ∈ l, y ∈ m) → l.length ≤ m.length
  | [], _, _, _ => Nat.zero_le _
  | x :: l, m, nd, h => by
    obtain ⟨n1, n2⟩ := List.nodup_cons.mp nd
    have hx := h x List.mem_cons_self
    have ih := le_cover (m := m.erase x) n2 fun y hy => (List.mem_erase_of_ne (fun e => n1 (by rw [← e]; exact hy))).mpr (h y (List.mem_cons_of_mem _ hy))
    rw [List.length_erase_of_mem hx] at ih
    have : 0 < m.length := List.length_pos_of_mem hx
    show l.length + 1 ≤ _
    omega
theorem cover {α : Type} [DecidableEq α] : ∀ {l m : List α}, l.Nodup → (∀ y ∈ l, y ∈ m) → m.length ≤ l.length → m.Nodup
  | [], m, _, _, h => by
    have : m = [] := List.length_eq_zero_iff.mp (Nat.le_zero.mp h)
    rw [this]
    exact List.nodup_nil
  | x :: l, m, nd, h, hl => by
    obtain ⟨n1, n2⟩ := List.nodup_cons.mp nd
    have hx := h x List.mem_cons_self
    have sub : ∀ y ∈ l, y ∈ m.erase x := fun y hy => (List.mem_erase_of_ne (fun e => n1 (by rw [← e]; exact hy))).mpr (h y (List.mem_cons_of_mem _ hy))
    have len : (m.erase x).length ≤ l.length := by
      rw [List.length_erase_of_mem hx]
      have : m.length ≤ l.length + 1 := hl
      omega
    have ih := cover n2 sub len
    have nx : x ∉ m.erase x := fun hm => by
      have := le_cover nd (m := m.erase x) fun y hy => (List.mem_cons.mp hy).elim (fun e => by rw [e]; exact hm) (sub y)
      have : l.length + 1 ≤ (m.erase x).length := this
      omega
    exact (List.perm_cons_erase hx).nodup_iff.mpr (List.nodup_cons.mpr ⟨nx, ih⟩)
def rSortHS (P : Program) (w : World) : List V → Hp → VK → Prop := fun vs H Q => ∃ (a : Addr) (l : List PySem.Str), vs = [V.ref a] ∧ H a = some (SetH (strSK P w) a l) ∧ l.length < 64 ∧ ∀ p, H p = none → Q (.ref p) (upd H p (.lst ((ascS l).map V.str)))
def rSortHI (P : Program) (w : World) : List V → Hp → VK → Prop := fun vs H Q => ∃ (a : Addr) (l : List Int), vs = [V.ref a] ∧ H a = some (SetH (intSK P w) a l) ∧ l.length < 64 ∧ ∀ p, H p = none → Q (.ref p) (upd H p (.lst ((ascI l).map V.int)))
theorem strs_of : ∀ (l : List Value), (∀ v ∈ l, ∃ k tk, v = Value.str k tk) → ∃ ks, StrsAre l ks
  | [], _ => ⟨[], .nil⟩
  | v :: l, h => by
    obtain ⟨k, tk, rfl⟩ := h v List.mem_cons_self
    obtain ⟨ks, hk⟩ := strs_of l fun u hu => h u (List.mem_cons_of_mem _ hu)
    exact ⟨k :: ks, .cons k tk hk⟩
theorem strs_mem : ∀ {l : List Value} {ks : List PySem.Str}, StrsAre l ks → ∀ k, k ∈ ks ↔ ∃ t, Value.str k t ∈ l
  | _, _, .nil, k => by simp
  | _, _, .cons x t r, k => by
    rw [List.mem_cons, strs_mem r]
    constructor
    · rintro (rfl | ⟨u, h⟩)
      · exact ⟨t, List.mem_cons_self⟩
      · exact ⟨u, List.mem_cons_of_mem _ h⟩
    · rintro ⟨u, h⟩
      rcases List.mem_cons.mp h with e | h
      · cases e
        exact .inl rfl
      · exact .inr ⟨u, h⟩
theorem sort_setS {P : Program} {w : World} {A : Around} {E : Value → Shared → Prop} {s : Shared} {a : Addr} {l : List PySem.Str} {Q : Value → Shared → Prop} (R : SetS P w s.heap a l) (calm : A.handled = none) (few : l.length < 64)
    (k : ∀ s' p (out : Array Value) (c : Nat), (∀ b o, s.heap.get? b = some o → s'.heap.get? b = some o) → s'.gens = s.gens → s'.os = s.os → s.heap.objs.size ≤ p →
      s'.heap.get? p = some (seqObj "list" out c) → StrsAre out.toList (ascS l) → Q (.ref p) s') : wpAny (model P w) A (call (.builtin "sorted") [.ref a]) Q E s := by
  obtain ⟨⟨es, ep, t⟩, ho, F, nd, bl, ri, le⟩ := R
  have sz : es.size = l.length := F.sz
  have el : ElemsOf (PySem.strKind P w) es.toList := F.el
  refine Calls.call_function_entry kind_sorted plain_sorted entry_sorted (args_sorted1 _) ?_
  unfold Builtin.«sorted»
  refine wpAny_bind (m := checkCount "sorted" 1 1 _) (wpAny_pure ?_)
  refine wpAny_bind (collect_set (A := A.in1) calm ⟨_, ho, rfl, rfl⟩ F.fit (by rw [sz]; exact bl) ri le fun s1 vs k1 hz g1 o1 pm => ?_)
  have vl : vs.length = l.length := by rw [pm.length_eq, List.length_map, Array.length_toList]; exact sz
  have isS : ∀ v ∈ es.toList.map (·.2), ∃ k tk, v = Value.str k tk := fun v hv => by
    obtain ⟨e, he, rfl⟩ := List.mem_map.mp hv
    obtain ⟨⟨k, hk, _⟩, _⟩ := el e he
    obtain ⟨tk, h⟩ := Value.isStrOf_shape hk
    exact ⟨k, tk, h⟩
  obtain ⟨ks, hS⟩ := strs_of vs fun v hv => isS v (pm.mem_iff.mp hv)
  have kmem : ∀ y, y ∈ ks ↔ y ∈ l := fun y => by
    rw [strs_mem hS, F.mem y]
    constructor
    · rintro ⟨tk, h⟩
      obtain ⟨e, he, h2⟩ := List.mem_map.mp (pm.mem_iff.mp h)
      exact ⟨e, he, by rw [h2]; exact is_str y tk⟩
    · rintro ⟨e, he, h2⟩
      obtain ⟨tk, h⟩ := Value.isStrOf_shape h2
      exact ⟨tk, pm.mem_iff.mpr (List.mem_map.mpr ⟨e, he, h⟩)⟩
  have kl : ks.length = l.length := by rw [← hS.length]; exact vl
  have knd : ks.Nodup := by
    have sub : l ⊆ ks := fun y hy => (kmem y).mpr hy
    exact cover nd sub (Nat.le_of_eq kl)
  refine wpAny_bind (wpAny_newList ?_ (by rw [vl, sizeLine_eq]; omega))
  have hoL : (s1.heap.push (seqObj "list" vs.toArray 0)).get? s1.heap.objs.size = some (seqObj "list" vs.toArray 0) := Heap.get?_push_size _ rfl
  refine wpAny_bind (wpAny_holding (wpAny_call_entry slot_list_sort ⟨_, hoL, rfl⟩ entry_list_sort (list_sort_treeK strKind_oneLt hoL hS.keysOf (fun v₁ v₂ rest e => keyKind_strs (by rw [← e]; exact hS)) (by rw [vl]; exact few) fun st' hp hs => ?_) (args_list_sort _)))
  obtain ⟨ys, y1, y2, y3⟩ := sorted_out_str hS hp hs
  have ey : ys = ascS l := sorted_asc y3 (y2.nodup_iff.mpr knd) fun y => by rw [y2.mem_iff, kmem]
  subst ey
  refine ⟨_, rfl, ?_⟩
  obtain ⟨c, hc⟩ := sortedHeap_at (vs := vs) (out := (arrOf st').map (·.2)) hoL
  refine wpAny_pure ⟨_, rfl, k _ s1.heap.objs.size _ c (fun b u e => ?_) g1 o1 hz hc y1⟩
  have q := k1 b u e
  have lt := Heap.lt_size q
  show (sortedHeap (s1.heap.push (seqObj "list" vs.toArray 0)) s1.heap.objs.size vs ((arrOf st').map (·.2))).get? b = some u
  rw [sortedHeap_old (Nat.ne_of_lt lt) (by rw [size_push']; exact Nat.lt_succ_of_lt lt)]
  exact Heap.get?_push_of_some _ q
theorem call_sortHS {P : Program} {w : World} (calm : X.calm = true) (hP : X.prog = P := by rfl) (hw : X.w = w := by rfl) : CallR X (.builtin "sorted") (rSortHS P w) := by
  subst hP
  subst hw
  intro pins s σ H vs us Q I r ⟨a, l, e, ha, few, q⟩
  subst e
  rw [Vals.ref1 r]
  refine sort_setS (setH_get I ha) (I.ok.hd calm) few fun s' p out c k g o hp hg hi => ?_
  have hlen : ((ascS l).map V.str).length ≤ sizeLine := by
    have : (ascS l).length ≤ l.length := Ord.len_asc
    rw [List.length_map, sizeLine_eq]
    omega
  have hn : H p = none := I.hok.fresh hp
  have J : Inv X pins σ (upd H p (.lst ((ascS l).map V.str))) { s with heap := s'.heap, gens := s'.gens, drawn := s'.drawn, toks := s'.toks } :=
    I.call (ch := []) (Un.laid k hp hn) (I.hok.laid k hp ⟨hlen, out.toList, c, vals_of_strs hi, hg⟩) (by rw [g]; exact I.bare) (fun _ z => nomatch z)
  have e : s' = { s with heap := s'.heap, gens := s'.gens, drawn := s'.drawn, toks := s'.toks } := by
    cases s'
    cases s
    cases o
    rfl
  rw [e]
  exact ⟨.ref p, _, J, rfl, q p hn⟩
theorem call_sortHI {P : Program} {w : World} (calm : X.calm = true) (hP : X.prog = P := by rfl) (hw : X.w = w := by rfl) : CallR X (.builtin "sorted") (rSortHI P w) := by
  subst hP
  subst hw
  intro pins s σ H vs us Q I r ⟨a, l, e, ha, few, q⟩
  subst e
  rw [Vals.ref1 r]
  have R : (intSK X.prog X.w).R s.heap a l := setH_get I ha
  refine sorted_set R.2 (I.ok.hd calm) few fun s' p out c ns k g o hp hg hi hs hm hl => ?_
  have en : ns = ascI l := ints_asc hs fun y => by rw [hm, decide_eq_true_eq]
  subst en
  have hlen : ((ascI l).map V.int).length ≤ sizeLine := by rw [List.length_map, hl, sizeLine_eq]; omega
  have hn : H p = none := I.hok.fresh hp
  have J : Inv X pins σ (upd H p (.lst ((ascI l).map V.int))) { s with heap := s'.heap, gens := s'.gens, drawn := s'.drawn, toks := s'.toks } :=
    I.call (ch := []) (Un.laid k hp hn) (I.hok.laid k hp ⟨hlen, out.toList, c, vals_of_ints hi, hg⟩) (by rw [g]; exact I.bare) (fun _ z => nomatch z)
  have e : s' = { s with heap := s'.heap, gens := s'.gens, drawn := s'.drawn, toks := s'.toks } := by
    cases s'
    cases s
    cases o
    rfl
  rw [e]
  exact ⟨.ref p, _, J, rfl, q p hn⟩
end
end Z
set_option maxRecDepth 100000
set_option maxHeartbeats 4000000
namespace Z
open PySem PySem.Spec PyProof.Rows L2
section
variable {X : Cx} {CX : CXT} {C f : Addr} {fd : FuncData} {ps : List Str} {sp : Sp} {E : XK} {n : Nat}
theorem own_call {pins : List (Addr × Obj)} {σ : L2.St} {H : Hp} {s : Shared} {A' : Around} {us : List Value} {vs : List V} {Qv : Value → Shared → Prop} {E' : Value → Shared → Prop} {W : V → Hp → Prop} (F : FnOk X.prog X.w X.K X.mg X.base CX n f fd ps sp) (hb : Binds X.K fd ps []) (I : Inv X pins σ H s)
    (e0 : Env0 X.prog X.w X.K X.mg X.base A' X.stack s H) (hr : Room n A') (rv : Vals vs us) (hsp : sp vs H W E) (hx : ∀ e s', CX X.stack H s E e s' → E' e s')
    (back : ∀ v u H' s', Inv X pins σ H' s' → RelV v u → W v H' → Qv u s') : wpAny (model X.prog X.w) A' (call (.ref f) us) Qv E' s := by
  have hl := F.len _ _ _ _ hsp
  refine wpAny_call (codeAny_mono (F.run A' X.stack s H ⟨us, []⟩ us vs _ E hr e0 (by
    have := hb s us I.kIn (by rw [List.append_nil, ← rv.length]; exact hl)
    simpa using this) rv hsp) fun r s' hq => ?_)
  cases r with
  | error e => exact hx e s' hq
  | ok fl =>
    cases fl with
    | ret w =>
      obtain ⟨v, H', I', rz, q⟩ := I.after hq
      exact back v w H' s' I' rz q
    | next => exact False.elim hq
    | brk => exact False.elim hq
    | cont => exact False.elim hq
theorem env_in1 {pins : List (Addr × Obj)} {σ : L2.St} {H : Hp} {s : Shared} (I : Inv X pins σ H s) : Env0 X.prog X.w X.K X.mg X.base X.A.in1 X.stack s H := by
  have e := I.env0
  exact ⟨e.frames, e.mod, e.bs, e.bsz, e.funs, e.frf, e.hok, e.bare⟩
def rLenO (C : Addr) (sp : Sp) (E : XK) : List V → Hp → VK → Prop := fun xs H Q => ∃ p dx fs, xs = [.ref p] ∧ H p = some (.ins C dx fs) ∧ sp [.ref p] H (fun v H' => ∃ m : Nat, v = .int m ∧ m < 1000000 ∧ Q (.int m) H') E
theorem call_lenO (F : FnOk X.prog X.w X.K X.mg X.base CX n f fd ps sp) (hs : PySem.W.findIn X.K (.ref C) "__len__" = some (some (.ref f))) (hf : PySem.W.isFn X.K (.ref f) = true)
    (hb : Binds X.K fd ps []) (hx : Passes CX X E) (hr : Room (n + 1) X.A) : CallR X (.builtin "len") (rLenO C sp E) := by
  intro pins s σ H xs us Q I r ⟨p, dx, fs, e, hp, hsp⟩
  subst e
  obtain ⟨u, rfl, rx⟩ := vals1 r
  cases (show u = Value.ref p from rx)
  obtain ⟨mA, J, _⟩ := ins_get I.hok hp
  obtain ⟨od, J, _⟩ := J.look
  refine Calls.call_function_entry kind_len plain_len entry_len (args_len1 _) ?_
  unfold Builtin.«len»
  refine wpAny_bind (m := oneArg "len" _) (wpAny_pure ?_)
  refine wpAny_bind (m := callSpecial? (.ref p) (Str.ofString "__len__")) (PySem.W.special_fn I.kIn J hs (beq_iff_eq.mp hf) ?_)
  refine own_call (vs := [.ref p]) F hb I (env_in1 I) hr.in1 (.cons rfl .nil) hsp (fun e s' hq => hx pins σ H s e s' I hq) ?_
  rintro v u H' s' I' rz ⟨m, ez, lt, q⟩
  subst ez
  obtain ⟨t, rfl⟩ := rz
  refine wpAny_bind (wpAny_holding (wpAny_pure ?_))
  refine wpAny_bind (wpAny_letGo ?_)
  show wpAny _ _ (if ((m : Nat) : Int) < 0 then _ else _) _ _ _
  rw [if_neg (by omega)]
  show wpAny _ _ (if ((m : Nat) : Int) ≥ 2 ^ 63 then _ else _) _ _ _
  rw [if_neg (by omega)]
  exact wpAny_bind (wpAny_mkInt (wpAny_pure ⟨_, rfl, .int m, H', I'.tok _, ⟨_, rfl⟩, q⟩))
structure rInO (C : Addr) (sp : Sp) (E : XK) (neg : Bool) (y x : V) (H : Hp) (Q : VK) : Prop where
  h : ∃ p dx fs, x = .ref p ∧ H p = some (.ins C dx fs) ∧ sp [.ref p, y] H (fun v H' => ∃ b : Bool, v = .bl b ∧ Q (.bl (b != neg)) H') E
theorem own_contains {pins : List (Addr × Obj)} {σ : L2.St} {H : Hp} {s : Shared} {p dx : Addr} {fs : List (Str × V)} {y : V} {v : Value} {Qb : Bool → Shared → Prop} {W : V → Hp → Prop} (F : FnOk X.prog X.w X.K X.mg X.base CX n f fd ps sp) (hs : PySem.W.findIn X.K (.ref C) "__contains__" = some (some (.ref f))) (hf : PySem.W.isFn X.K (.ref f) = true)
    (hb : Binds X.K fd ps []) (hx : Passes CX X E) (hr : Room n X.A) (I : Inv X pins σ H s) (ry : RelV y v) (hp : H p = some (.ins C dx fs)) (hsp : sp [.ref p, y] H W E) (back : ∀ z H' s', Inv X pins σ H' s' → W z H' → ∃ b : Bool, z = .bl b ∧ Qb b s') :
    wpAny (model X.prog X.w) X.A (contains (.ref p) v) Qb X.xe s := by
  obtain ⟨mA, J, _⟩ := ins_get I.hok hp
  obtain ⟨od, J, _⟩ := J.look
  have ln : stdlibNamesSay? (.ref p) v = none := by
    unfold stdlibNamesSay?
    rfl
  unfold contains
  refine wpAny_holding ?_
  rw [ln]
  refine wpAny_bind (wpAny_bind (J.type.here ((PySem.W.looks_findIn I.kIn hs).here ?_)))
  refine wpAny_bind ?_
  refine wpAny_mono (Q := fun r s' => ∃ u, r = some u ∧ wpAny (model X.prog X.w) X.A (truthy u) Qb X.xe s') ?_ (fun r s' ⟨u, e, h⟩ => by rw [e]; exact h) fun _ _ e => e
  unfold callSpecialUnlessNone?
  refine wpAny_bind (wpAny_bind (J.type.here ((PySem.W.looks_findIn I.kIn hs).here ?_)))
  refine wpAny_holding (wpAny_bind ((PySem.W.bind_fn I.kIn _ (beq_iff_eq.mp hf)).here ?_))
  show wpAny _ _ (if (Value.ref f == Value.none) = true then _ else _) _ _ _
  rw [if_neg (show ¬ ((Value.ref f == Value.none) = true) from Bool.false_ne_true)]
  refine wpAny_bind (own_call (vs := [.ref p, y]) F hb I I.env0 hr (.cons rfl (.cons ry .nil)) hsp (fun e s' hq => hx pins σ H s e s' I hq) ?_)
  intro z u H' s' I' rz hw
  obtain ⟨b, ez, q⟩ := back z H' s' I' hw
  subst ez
  obtain rfl : u = Value.bool b := rz
  exact wpAny_pure ⟨_, rfl, wpAny_truthy_bool q⟩
theorem op_inO {K : PySem.W.Frag} (F : FnOk X.prog X.w X.K X.mg X.base CX n f fd ps sp) (hs : PySem.W.findIn X.K (.ref C) "__contains__" = some (some (.ref f))) (hf : PySem.W.isFn X.K (.ref f) = true)
    (hb : Binds X.K fd ps []) (hx : Passes CX X E) (hr : Room n X.A) : OpR X (compareOp .In) (rInO C sp E false) := by
  intro pins s σ H y x v u Q I ry rx ⟨p, dx, fs, ex, hp, hsp⟩
  subst ex
  obtain rfl : u = Value.ref p := rx
  show wpAny _ _ (do return Value.bool (← contains (.ref p) v)) _ _ s
  refine wpAny_bind (own_contains (Qb := fun b s' => wpAny (model X.prog X.w) X.A (pure (Value.bool b)) (EP X pins σ Q) X.xe s') F hs hf hb hx hr I ry hp hsp ?_)
  rintro z H' s' I' ⟨b, ez, q⟩
  refine ⟨b, ez, wpAny_pure ⟨.bl b, H', I', rfl, ?_⟩⟩
  simpa using q
theorem op_notInO {K : PySem.W.Frag} (F : FnOk X.prog X.w X.K X.mg X.base CX n f fd ps sp) (hs : PySem.W.findIn X.K (.ref C) "__contains__" = some (some (.ref f))) (hf : PySem.W.isFn X.K (.ref f) = true)
    (hb : Binds X.K fd ps []) (hx : Passes CX X E) (hr : Room n X.A) : OpR X (compareOp .NotIn) (rInO C sp E true) := by
  intro pins s σ H y x v u Q I ry rx ⟨p, dx, fs, ex, hp, hsp⟩
  subst ex
  obtain rfl : u = Value.ref p := rx
  show wpAny _ _ (do return Value.bool (!(← contains (.ref p) v))) _ _ s
  refine wpAny_bind (own_contains (Qb := fun b s' => wpAny (model X.prog X.w) X.A (pure (Value.bool (!b))) (EP X pins σ Q) X.xe s') F hs hf hb hx hr I ry hp hsp ?_)
  rintro z H' s' I' ⟨b, ez, q⟩
  refine ⟨b, ez, wpAny_pure ⟨.bl (!b), H', I', rfl, ?_⟩⟩
  simpa using q
structure rIsiA (K : PySem.W.Frag) (xs : List V) (H : Hp) (Q : VK) : Prop where
  h : rIsi K xs H Q ∨ rIsiT K xs H Q
variable {e : Expr} {es : List Expr} {t : TA} {p pos : Pos}
theorem cb_isiA {K : PySem.W.Frag} (B : Bi X.mg) (ha : PA X (e :: es) t) (hk : X.K = K := by rfl) (hg : Gl X "isinstance" := by rfl) (he : starEach (e :: es) X.env = (false, eval e X.env) :: starEach es X.env := by rfl) (hpl : (backTo pos (starEach es X.env)).any (·.1) = false := by rfl) :
    PE X (.Call (.Name "isinstance" p) (e :: es) [] pos) (tCB (rIsiA K) t) := by
  subst hk
  exact pe_callB (CallR.box (CallR.or call_isi call_isiT) fun _ _ _ q => q.h) hg B.isinstance boot_isi ha (he := he) (hpl := hpl)
structure rEqY (K : PySem.W.Frag) (C : Addr) (sp : Sp) (E : XK) (x y : V) (H : Hp) (Q : VK) : Prop where
  h : ∃ a dx fs t, x = .ref a ∧ H a = some (.ins C dx fs) ∧ TyX K H y t ∧ PySem.W.notFirst K C t = true ∧ sp [x, y] H (fun v H' => ∃ r, v = .bl r ∧ Q (.bl r) H') E
theorem op_eqY {K : PySem.W.Frag} (F : FnOk X.prog X.w X.K X.mg X.base CX n f fd ps sp) (hs : PySem.W.findIn X.K (.ref C) "__eq__" = some (some (.ref f)))
    (hf : PySem.W.isFn X.K (.ref f) = true) (hb : Binds X.K fd ps []) (hx : Passes CX X E) (hr : Room n X.A) (hk : X.K = K := by rfl) : OpR X (compareOp .Eq) (rEqY K C sp E) := by
  subst hk
  intro pins s σ H x y u v Q I rx ry ⟨a, dx, fs, t, ex, ha, ty, nf, hsp⟩
  subst ex
  obtain rfl : u = Value.ref a := rx
  obtain ⟨mA, J, _⟩ := ins_get I.hok ha
  obtain ⟨od, J, _⟩ := J.look
  obtain ⟨m, hF⟩ := I.fr
  obtain ⟨P, Z, p, _⟩ := kit_of I ry ty
  refine PySem.W.cmp_K (op := .Eq) (tb := t) hr.units0 hF I.ok.mod.kin J (Z.ty _ _ I.kIn p) nf hs hf ?_
  refine own_call (vs := [.ref a, y]) F hb I I.env0 hr (.cons rfl (.cons ry .nil)) hsp (fun e s' hq => hx pins σ H s e s' I hq) ?_
  rintro z u' H' s' I' rz ⟨r, ez, q⟩
  subst ez
  obtain rfl : u' = Value.bool r := rz
  exact ⟨.bl r, H', I', rfl, q⟩
end
end Z
set_option maxRecDepth 100000
set_option maxHeartbeats 4000000
set_option pp.maxSteps 400
namespace Z
open PySem PySem.Spec PyProof.Rows L2
open PySem.W PySem.Calls PySem.HandSPX
open Builtin Builtin.ObjectAttr
structure Root (R : String) (bm : List Value) (newId initId : String) : Prop where
  src : ∃ B iN bmN, ExcBaseFacts B newId iN bmN ∧ bm.contains (.type B) = true
  noA : bm.contains (.type "AttributeError") = false
  noN : bm.contains (.type "NameError") = false
  ob : bm.contains (.type "object") = true
  ne : bm.isEmpty = false
  pass : ∀ self, refuseLoop self "__setattr__" bm = pure ()
  slot : Slot R "__init__" initId
  entry : entryFor table initId = some Builtin.«BaseException.__init__»
  kind : builtinKind initId = some .slot
  row : Manifest.signature? initId = some ⟨.positional, "*", R, .self, [⟨"args", .varPos, false⟩]⟩
  star : (R != "*") = true
  kx : KxsFacts R initId
theorem root_KeyError : Root "KeyError" [.type "KeyError", .type "LookupError", .type "Exception", .type "BaseException", .type "object"] "LookupError.__new__" "KeyError.__init__" where
  src := ⟨_, _, _, PySem.F.excBase_LookupError, by decide +kernel⟩
  noA := by decide +kernel
  noN := by decide +kernel
  ob := by decide +kernel
  ne := rfl
  pass := fun self => by kernel_rfl
  slot := .of (owner := "KeyError") (n := "__init__") (by rw [typeLookup_type, builtinLookup_eq_fast]; kernel_rfl) (by decide +kernel) (by decide +kernel) (by decide +kernel)
    (by first | exact .inl (by decide +kernel) | exact .inr (by decide +kernel)) (by rw [isSubtype_type]; kernel_rfl)
  entry := entryFor_alias (id' := "BaseException.__init__") (by rw [fastTable_eq_tree]; kernel_rfl) (by first | rfl | decide +kernel) (by decide +kernel) (by rw [fastTable_eq_tree]; kernel_rfl)
  kind := by kernel_rfl
  row := by kernel_rfl
  star := by decide +kernel
  kx := ⟨by show builtinType _ = _; rw [builtinType_eq_fast]; kernel_rfl, by first | kernel_rfl | rfl⟩
section
variable {M : Model} {A : Around} {E : Value → Shared → Prop} {h : Heap} {g : Array GenState} {d : Drawn} {t : Nat} {os : OsState}
variable {nm q : Str} {C N : Addr} {bs bm bmB : List Value} {sn : List Str} {sub : List Value} {ab : Bool} {col : Option Bool} {dd : Option Addr} {k0 k1 k2 k3 k5 : Option Value} {B newId initId R iN : String}
theorem chk_new (FB : ExcBaseFacts B newId iN bmB) (hB : bm.contains (.type B) = true) {rest : List Value} {Q : Unit → Shared → Prop}
    (hC : h.get? C = some (excClassObj nm q C N bs bm true sn sub ab col dd k0 k1 k2 k3 k5 newId)) (hq : Q () ⟨h, g, d, t, os⟩) : wpAny M A (checkBuiltinCall newId ⟨.ref C :: rest, []⟩) Q E ⟨h, g, d, t, os⟩ := by
  have z : (Value.ref C :: bm).contains (.type B) = true := by rw [List.contains_cons, hB, Bool.or_true]
  have st := FB.noStar
  simp only [checkBuiltinCall, FB.newKind, FB.newSplit, FB.newRow]
  repeat (first | refine wpAny_loadPart_at hC ?_ | (refine wpAny_isSubtype_exc hC ?_; rw [z]) | refine wpAny_staticBase_exc hC ?_ | refine wpAny_madeBy_exc hC ?_ | simp only [bne_self_eq_false, Bool.false_eq_true, if_false] | wp_step)
  exact hq
theorem chk_up (W : Root R bm newId initId) {e : Addr} {oe : Obj} {rest : List Value} {Q : Unit → Shared → Prop}
    (hC : h.get? C = some (excClassObj nm q C N bs bm true sn sub ab col dd k0 k1 k2 k3 k5 newId)) (he : h.get? e = some oe) (hcls : oe.cls = .ref C) (hq : Q () ⟨h, g, d, t, os⟩) : wpAny M A (checkBoundCall initId ⟨.ref e :: rest, []⟩) Q E ⟨h, g, d, t, os⟩ := by
  have st := W.star
  simp only [checkBoundCall, W.kind, W.row]
  repeat (first | (with_reducible refine wpAny_loadPart_at he ?_; rw [hcls]) | with_reducible refine wpAny_loadPart_at hC ?_ | wp_step)
  refine wpAny_onRaise ?_
  rw [show ∀ (x y : String) (n : Nat), Bind.check ⟨.positional, "*", R, .self, [⟨"args", .varPos, false⟩]⟩ x y n (List.map (fun x => x.fst) ({ pos := Value.ref e :: rest } : Args).kw) = pure () from fun x y n => check_star_args _ _ _ _ _ _]
  exact wpAny_pure hq
end
section
variable {prog : Program} {w : World} {A : Around} {E : Value → Shared → Prop} {Rs : Result → Shared → Prop} {h : Heap} {g : Array GenState} {d : Drawn} {t : Nat} {os : OsState}
variable {nm q : Str} {C N : Addr} {bs bm bmB : List Value} {sn : List Str} {sub : List Value} {ab : Bool} {col : Option Bool} {dd : Option Addr} {k0 k1 k2 k3 k5 : Option Value} {B newId initId R iN : String}
theorem run_new (FB : ExcBaseFacts B newId iN bmB) (hB : bm.contains (.type B) = true) (noA : bm.contains (.type "AttributeError") = false) (noN : bm.contains (.type "NameError") = false) {rest : List Value}
    (hC : h.get? C = some (excClassObj nm q C N bs bm true sn sub ab col dd k0 k1 k2 k3 k5 newId)) (hrest : rest.length ≤ sizeLine)
    (hq : Rs (.ok (.ret (.ref (h.objs.size + 1)))) ⟨(h.push (kdv_tup rest)).push (excO C h.objs.size), g, d, t, os⟩) :
    codeAny (model prog w) A (.builtin newId ⟨.ref C :: rest, []⟩) Rs ⟨h, g, d, t, os⟩ := by
  have e0 := FB.ends
  have c1 : (Value.ref C :: bm).contains (.type B) = true := by rw [List.contains_cons, hB, Bool.or_true]
  have c2 : (Value.ref C :: bm).contains (.type "AttributeError") = false := by rw [List.contains_cons, noA]; rfl
  have c3 : (Value.ref C :: bm).contains (.type "NameError") = false := by rw [List.contains_cons, noN]; rfl
  refine codeAny_builtinAt FB.entry ?_
  unfold Builtin.«BaseException.__new__»
  refine PySem.wpAt_bind ?_
  show PySem.wpAt _ _ _ (stack >>= _) _ _ _
  refine PySem.wpAt_bind (PySem.wpAt_stack fun p below => PySem.wpAt_of_wpAny ?_)
  wp_walk
  refine wpAt_of_wpAny ?_
  rw [FB.owner]
  repeat (first | with_reducible refine wpAny_madeHere_exc FB.canon hC ?_ | with_reducible refine wpAny_loadPart_at hC ?_ | (with_reducible refine wpAny_isSubtype_exc hC ?_; first | rw [c1] | rw [c2] | rw [c3]) | wp_step)
  show Rs _ _
  rw [Heap.size_push]
  exact hq
theorem run_make (FB : ExcBaseFacts B newId iN bmB) (hB : bm.contains (.type B) = true) (noA : bm.contains (.type "AttributeError") = false) (noN : bm.contains (.type "NameError") = false) {rest : List Value} {fI : Addr} {Q : Fin → Shared → Prop}
    (hC : h.get? C = some (excClassObj nm q C N bs bm true sn sub ab col dd k0 k1 k2 k3 k5 newId))
    (hi : W.Looks (model prog w) h (typeLookup (.ref C) "__init__") (some (.ref fI))) (hb : ∀ self, W.Looks (model prog w) h (bindSpecial (.ref fI) self) (.ref fI, [self])) (hrest : rest.length ≤ sizeLine)
    (hq : codeAny (model prog w) A (.call (.ref fI) ⟨.ref (h.objs.size + 1) :: rest, []⟩)
      (fun r s' => match r with | .ok (.ret v) => v = .none ∧ Q (.done (.ret (.ref (h.objs.size + 1)))) s' | .ok _ => False | .error e => E e s')
      ⟨(h.push (kdv_tup rest)).push (excO C h.objs.size), g, d, t, os⟩) :
    wpAny (model prog w) A (Builtin.«type.__call__» ⟨.ref C :: rest, []⟩) Q E ⟨h, g, d, t, os⟩ := by
  repeat (first | with_reducible refine wpAny_loadPart_at hC ?_ | with_reducible refine wpAny_madeBy_exc hC ?_ | wp_step)
  refine codeAny_call_builtin_code (Code.quiet_builtin _ FB.quiet) (chk_new FB hB hC ?_)
  refine run_new FB hB noA noN hC hrest ?_
  show wpAny _ _ _ _ _ _
  have kp : ∀ b o, h.get? b = some o → ((h.push (kdv_tup rest)).push (excO C h.objs.size)).get? b = some o := fun b o e => Heap.get?_push_of_some _ (Heap.get?_push_of_some _ e)
  have hC1 := kp _ _ hC
  have hn : ((h.push (kdv_tup rest)).push (excO C h.objs.size)).get? (h.objs.size + 1) = some (excO C h.objs.size) := by heap_get
  have cC : (Value.ref C :: bm).contains (.ref C) = true := by simp
  have i1 := hi.keeps kp
  have b1 := (hb (.ref (h.objs.size + 1))).keeps kp
  unfold isInstance
  repeat (first | with_reducible refine wpAny_loadPart_at hn ?_ | (with_reducible refine wpAny_isSubtype_exc hC1 ?_; rw [cC]) | wp_step)
  show wpAny _ _ (typeLookup (.ref C) _) _ _ _
  refine i1.at ?_
  refine wpAny_holding (wpAny_bind (b1.at ?_))
  refine wpAny_bind (wpAny_call (codeAny_mono hq fun r s' z => ?_))
  rcases r with e | (v | _ | _ | _) <;> first | exact z | exact z.elim | skip
  obtain ⟨rfl, z⟩ := z
  first
    | exact wpAny_pure (wpAny_pure z)
    | (wp_walk; exact z)
theorem run_call (FB : ExcBaseFacts B newId iN bmB) (hB : bm.contains (.type B) = true) (noA : bm.contains (.type "AttributeError") = false) (noN : bm.contains (.type "NameError") = false) {rest : List Value} {fI : Addr}
    (hC : h.get? C = some (excClassObj nm q C N bs bm true sn sub ab col dd k0 k1 k2 k3 k5 newId))
    (hi : W.Looks (model prog w) h (typeLookup (.ref C) "__init__") (some (.ref fI))) (hb : ∀ self, W.Looks (model prog w) h (bindSpecial (.ref fI) self) (.ref fI, [self])) (hrest : rest.length ≤ sizeLine)
    (hq : codeAny (model prog w) (A.under (.builtin "type.__call__" ⟨.ref C :: rest, []⟩)) (.call (.ref fI) ⟨.ref (h.objs.size + 1) :: rest, []⟩) (W.InitBack (h.objs.size + 1) Rs)
      ⟨(h.push (kdv_tup rest)).push (excO C h.objs.size), g, d, t, os⟩) :
    codeAny (model prog w) A (.call (.ref C) ⟨rest, []⟩) Rs ⟨h, g, d, t, os⟩ := by
  have f1 := tc_lookup
  have f2 := tc_bind (.ref C)
  have hTy : (⟨h, g, d, t, os⟩ : Shared).TypeIs (.ref C) "type" := ⟨_, hC, rfl⟩
  refine codeAny_of_tree ?_
  show wpAny _ _ (callAny (.ref C) _) _ _ _
  repeat (any_goals (first | assumption | with_reducible refine wpAny_loadPart_at hC ?_ | wp_step))
  refine ⟨rfl, ?_⟩
  refine codeAny_call_builtin_at (Code.quiet_builtin _ (by decide +kernel)) entry_typeCall (wpAny_check_type_call_sub hC (run_make FB hB noA noN hC hi hb hrest ?_))
  refine codeAny_mono hq fun r s' z => ?_
  rcases r with e | (v | _ | _ | _) <;> exact z
theorem run_up (W : Root R bm newId initId) {u e t0 : Addr} {rest : List Value} {Q : Value → Shared → Prop}
    (hC : h.get? C = some (excClassObj nm q C N bs bm true sn sub ab col dd k0 k1 k2 k3 k5 newId)) (he : h.get? e = some (excO C t0)) (hu : h.get? u = some (kxs_mw initId e)) (hz : rest.length ≤ sizeLine)
    (hq : ∀ h' t1, (∀ b o, b ≠ e → h.get? b = some o → h'.get? b = some o) → h'.get? e = some (excO C t1) → Q .none ⟨h', g, d, t, os⟩) :
    wpAny (model prog w) A (call (.ref u) rest) Q E ⟨h, g, d, t, os⟩ := by
  refine wpAny_call (codeAny_of_tree ?_)
  show wpAny _ A.in1 (callAny (.ref u) ⟨rest, []⟩) _ _ _
  simp only [callAny]
  refine wpAny_bind (wpAny_load hu ?_)
  simp only [kxs_mw, show (Value.type "method-wrapper" == Value.type "method" || Value.type "method-wrapper" == Value.type "builtin_function_or_method" || Value.type "method-wrapper" == Value.type "method-wrapper") = true by decide, if_true]
  refine KFB.if_so (by decide) ?_
  refine wpAny_bind (chk_up W hC he rfl ?_)
  refine wpAny_bind (wpAny_pure (wpAny_pure ?_))
  refine ⟨plainId_quiet W.slot.plain _, codeAny_builtin W.entry ?_⟩
  exact exc_init_tree (cls := .ref C) (t0 := t0) (dv := none) (c2 := .none) (c3 := .none) (b4 := .bool false) he hz fun h' k e' _ => hq h' h.objs.size k e'
theorem run_store (Wr : Root R bm newId initId) {K : W.Frag} {name : Str} {tk : Tok} {v : Value} {x : Addr} {fv : Array Value} {cd : ClassData}
    (X : K.In h) (hx : h.get? x = some { cls := .ref C, data := .fields fv }) (hcd : W.clsIn K C = some cd) (hm : cd.mro = .ref C :: bm) (hh : cd.hasDict = true) (ha : W.findIn K (.ref C) name = some none)
    (hq : ∀ h' tk' dx, (∀ b o, b ≠ x → h.get? b = some o → h'.get? b = some o) → h.objs.size ≤ dx → dx ≠ x → h'.get? x = some { cls := .ref C, dict := some dx, data := .fields fv } →
      h'.Ns1 dx (fun y => if y = name then some v else none) → Rs (.ok (.ret .none)) ⟨h', g, d, tk', os⟩) :
    codeAny (model prog w) A (.call (.builtin "object.__setattr__") ⟨[.ref x, .str name tk, v], []⟩) Rs ⟨h, g, d, t, os⟩ := by
  have I : W.InstAt h x { cls := .ref C, data := .fields fv } C none := ⟨hx, rfl, rfl, trivial⟩
  have SF := F.store_object
  have xs : x ≠ h.objs.size := Nat.ne_of_lt (Heap.lt_size hx)
  have ob : cd.mro.contains (.type "object") = true := by rw [hm, List.contains_cons, Wr.ob, Bool.or_true]
  have sb : W.Looks (model prog w) h (isInstance (.ref x) (.type "object")) true := I.type.andThen (W.looks_mroIn X (by unfold W.mroIn; rw [hcd, Option.bind_some, if_neg (by rw [hm]; exact Bool.false_ne_true), ob]))
  refine codeAny_call_builtin SF.slot.plain SF.entry (@W.check_slot (model prog w) _ _ ⟨h, g, d, t, os⟩ "object.__setattr__" "object" "__setattr__" (.ref x) [.str name tk, v] [] _ SF.kind SF.split sb (SF.args (.ref x) (.str name tk) v) ?_)
  have mr : W.Looks (model prog w) h (mroOf (.ref C)) cd.mro := (W.looks_clsIn X hcd).andThen .now
  have tk0 : W.Looks (model prog w) h (storeTaker? none) none := .now
  have cl : W.Looks (model prog w) h (classData C) cd := W.looks_clsIn X hcd
  rw [W.osa_eq, refuse_eq]
  refine wpAny_bind (wpAny_bind (I.type.at (wpAny_bind (mr.at ?_))))
  rw [hm, refuseLoop_ref, Wr.pass]
  refine wpAny_pure (wpAny_bind (I.type.at (wpAny_bind ((W.looks_findIn X ha).at (wpAny_bind (tk0.at ?_))))))
  show wpAny _ _ (storeInOwnDict (.ref x) (.ref C) (.str name tk) name v false) _ _ _
  obtain ⟨nm, bs, mro, ns, qn, hd, sn, sb, ab, col, del⟩ := cd
  dsimp only at hh
  subst hh
  unfold storeInOwnDict ownDictForStores
  repeat (first | with_reducible refine store_in_new ?_ ?_ | with_reducible refine wpAny_loadPart_at hx ?_ | with_reducible refine cl.at ?_ | wp_step)
  · exact ⟨_, #[], _, (Heap.get?_update_ne _ _ _ _ xs.symm).trans (Heap.get?_push_at rfl rfl), rfl, fun e he => absurd he (by simp), fun _ => rfl⟩
  · intro h' tk' hn' hs
    have hx1 : (h.push { cls := .type "dict", data := .dict #[] }).get? x = some { cls := .ref C, data := .fields fv } := Heap.get?_push_of_some _ hx
    refine hq h' tk' h.objs.size (fun b o hb ho => ?_) (Nat.le_refl _) xs.symm ?_ hn'
    · exact (hs.2 b (Nat.ne_of_lt (Heap.lt_size ho))).trans ((Heap.get?_update_ne _ _ _ _ hb).trans (Heap.get?_push_of_some _ ho))
    · exact (hs.2 x xs).trans (Heap.get?_update_self _ hx1 rfl)
end
structure TiedK (R : String) (rm : List Value) (newId initId : String) (prog : Program) (K : Frag) (mg : Str → Option Value) (x f qual : Str) (C fI : Addr) : Prop where
  root : Root R rm newId initId
  gC : mg x = some (.ref C)
  cls : ∃ nm q N bs sn sub ab col dd k0 k1 k2 k3 k5, K.lookup C = some (excClassObj nm q C N bs rm true sn sub ab col dd k0 k1 k2 k3 k5 newId)
  sa : findIn K (.ref C) "__setattr__" = some (some (.builtin "object.__setattr__"))
  noN : findIn K (.ref C) f = some none
  iC : findIn K (.ref C) "__init__" = some (some (.ref fI))
  tC : typeIn K (.ref fI) = some (.type "function")
  kC : keepIn K (.ref C) = true
  exC : subIn K (.ref C) (.type "BaseException") = some true
  isR : subIn K (.ref C) (.type R) = some true
  tyC : typeIn K (.ref C) = some (.type "type")
  xf : XfC K C
  fn : ∃ (oc : Value) (od : Option Addr) (kV doc pm : Value) (an : Option Addr) (cda cc : Addr) (ct : Value) (osl : Array (Option Value)) (m : Str) (j : Nat) (p1 p2 q0 q1 q2 q3 q4 q5 r1 r2 r3 r4 : Pos) (ccl : Value) (cdd : Option Addr) (vs : Array Value) (ccs : Array (Option Value)) (file : Str) (tf : Tok) (cl : Value) (cld : Option Addr) (csl : Array (Option Value)),
    K.lookup fI = some ⟨oc, od, .func (fnX "__init__" qual (xiA f p1 p2) (xiB f m j q0 q1 q2 q3 q4 q5 r1 r2 r3 r4) (xiS f) [("__class__", cc)] .none kV doc pm an (.ref cda) ct), osl⟩ ∧ codeIn K (.ref cda) qual = true ∧
    K.lookup cda = some ⟨ccl, cdd, .fields vs, ccs⟩ ∧ vs[2]? = some (.str file tf) ∧ ((prog.main.file : Str) == file) = true ∧ (q2.endLine == q4.line) = true ∧ K.lookup cc = some ⟨cl, cld, .cell (some (.ref C)), csl⟩
  sup : mg "super" = none
  top : (prog.main.scope.names.lookup ("super" : Str)).isSome = false
  self : mroIn K C (.ref C) = some true
  up : ks_superIn K C C "__init__" = some (some (.builtin initId))
  opq : nsIn K cStatics "thirdparty.any" = some none
  nf : f ≠ "self"
  nsup : f ≠ "super"
  ncls : f ≠ "__class__"
  ndb : f ≠ "__debug__"
  bd : ∀ (fd : FuncData) (a v : Value), IsInit f qual fd → bindArgs fd ⟨[a, v], []⟩ = pure ([("self", a), (f, v)] : List (Str × Value))
section
variable {prog : Program} {w : World} {A : Around} {E : Value → Shared → Prop} {Rs : Result → Shared → Prop} {s : Shared} {K : Frag} {mg mb : Str → Option Value} {x f qual : Str} {C fI : Addr} {R newId initId : String} {rm : List Value}
theorem tiedK_init (T : TiedK R rm newId initId prog K mg x f qual C fI) {e t0 : Addr} {v : Value} {args : Args} (X : K.In s.heap) (hlim : s.heap.NoLimit) (glob : s.heap.Ns mainGlobals mg) (blt : s.heap.Ns builtinsNs mb) (bb : ∀ y : Str, y ≠ "__name__" → mb y = bootBuiltins y)
    (he : s.heap.get? e = some (excO C t0)) (hnx : K.lookup e = none) (hroom : A.depth < recursionLimit) (hb : ∀ fd, IsInit f qual fd → BindsTo s fd args [("self", .ref e), (f, v)])
    (hq : ∀ h' tk dx t1, (∀ b o, b ≠ e → s.heap.get? b = some o → h'.get? b = some o) → h'.get? e = some { cls := .ref C, dict := some dx, data := .fields #[.ref t1, .none, .none, .none, .bool false, .none] } → s.heap.objs.size ≤ dx → dx ≠ e →
      h'.Ns1 dx (fun y => if y = f then some v else none) → Rs (.ok (.ret .none)) { s with heap := h', toks := tk }) :
    codeAny (model prog w) A (.call (.ref fI) args) Rs s := by
  obtain ⟨oc, od, kV, doc, pm, an, cda, cc, ct, osl, m, j, p1, p2, q0, q1, q2, q3, q4, q5, r1, r2, r3, r4, ccl, cdd, vs, ccs, file, tf, cl, cld, csl, lk, code, lkc, hvs, hfile, hline, lcell⟩ := T.fn
  obtain ⟨nm, q, N, bs, sn, sub, ab, col, dd, k0, k1, k2, k3, k5, hC⟩ := T.cls
  have hcl : clsIn K C = some { name := nm, bases := bs, mro := .ref C :: rm, ns := N, qualname := q, hasDict := true, slotNames := sn, subclasses := sub, abstract := ab, collection := col, hasDel := false } := by unfold clsIn; rw [hC] <;> rfl
  have lsf := xiS_f (f := f) T.nf
  have lcs := xiS_cls (f := f) T.ncls
  have lsu := xiS_super (f := f) T.nsup
  refine ks_codeAny_call_defAt (fd := fnX "__init__" qual (xiA f p1 p2) (xiB f m j q0 q1 q2 q3 q4 q5 r1 r2 r3 r4) (xiS f) [("__class__", cc)] .none kV doc pm an (.ref cda) ct) (body := xiB f m j q0 q1 q2 q3 q4 q5 r1 r2 r3 r4) (binds := [("self", .ref e), (f, v)])
    hroom (X _ _ lk) rfl hlim (codeRec_of X code) rfl (hb _ ⟨kV, doc, pm, .ref cda, ct, an, cc, m, j, p1, p2, q0, q1, q2, q3, q4, q5, r1, r2, r3, r4, rfl⟩) (fun y hy => ?_) (fun y hy => ?_) (fun h1 hns kk => ?_) rfl rfl rfl
  · simp only [xiS, List.mem_cons, List.not_mem_nil, or_false] at hy
    rcases hy with rfl | rfl | rfl | rfl <;> (intro z; cases z)
  · simp only [List.mem_cons, List.not_mem_nil, or_false] at hy
    rcases hy with rfl | rfl
    · exact rfl
    · exact lsf
  have X1 : K.In h1 := X.keeps kk
  have he1 := kk _ _ he
  have hself : ([(("self" : Str), Value.ref e), (f, v)].reverse).lookup ("self" : Str) = some (.ref e) := by
    simp [List.lookup, eqs_ne T.nf]
  have hval : ([(("self" : Str), Value.ref e), (f, v)].reverse).lookup f = some v := by
    simp [List.lookup]
  generalize hm : (fun y => ([(("self" : Str), Value.ref e), (f, v)].reverse).lookup y) = m0 at hns
  have e1 : m0 ("self" : Str) = some (.ref e) := by rw [← hm]; exact hself
  have e2 : m0 f = some v := by rw [← hm]; exact hval
  have hlt := hns.lt
  have hLe : s.heap.objs.size ≠ e := Nat.ne_of_gt (Heap.lt_size he)
  refine ks_wpAt_execs_cons (ks_wpAt_Expr_any (ks_wpAt_MethodCall ?h1 (call_tree hline rfl)) rfl rfl)
  case h1 =>
    refine ks_wpAt_super_base (env := callEnv (fnX "__init__" qual (xiA f p1 p2) (xiB f m j q0 q1 q2 q3 q4 q5 r1 r2 r3 r4) (xiS f) [("__class__", cc)] .none kV doc pm an (.ref cda) ct) s.heap.objs.size fI) lsu lcs rfl rfl (X1 _ _ lk) rfl rfl rfl (X1 _ _ lkc) rfl hvs hfile T.top ?_
    refine ks_loadName_global rfl lsu (loadGlobal_builtin (glob.keeps kk) T.sup (blt.keeps kk) ((bb _ (by decide)).trans boot_super_) ⟨rfl, ?_⟩)
    refine wpAny_loadName_free rfl lcs rfl ⟨_, X1 _ _ lcell, rfl⟩ ?_
    refine wpAny_loadName_local rfl xiS_self hns e1 ?_
    refine ks_wpAny_isType_cls (X1 _ _ hC) rfl ⟨rfl, ?_⟩
    refine ks_wpAny_call_super (X1 _ _ hC) rfl he1 rfl (fun c z => by cases z) (looks_mroIn X1 T.self) (fun h2 hso k2 => ?_)
    have X2 : K.In h2 := X1.keeps k2
    have hxC : e ≠ C := fun z => by
      rw [z] at hnx
      rw [hnx] at hC
      cases hC
    have I2 : InstAt h2 e (excO C t0) C none := ⟨k2 _ _ he1, rfl, rfl, trivial⟩
    have hup := T.up
    unfold ks_superIn at hup
    rw [hcl] at hup
    refine kxs_getMethod T.root.kx hso (looks_opaque X2 T.opq) (l₀ := .ref C :: rm) ?_ rfl X2 hup (I2.type.andThen (looks_subIn X2 T.isR)) hxC (by decide) ?_
    · exact fun A Q E s k q => wpAny_bind ((looks_clsIn X2 hcl) A _ E s k (wpAny_pure q))
    refine kxs_callWith (i := initId) (x := e) rfl (evalArgs_plain (Calls.spliced_cons (Calls.Constant_str (k := j) (pos := q3) (Calls.spliced_nil ⟨Heap.get?_push_at rfl rfl, ?_⟩))))
    refine run_up (C := C) T.root (Heap.get?_push_of_some _ (X2 _ _ hC)) (Heap.get?_push_of_some _ I2.at_) (Heap.get?_push_at rfl rfl) (one_sz _) fun h3 t1 k3 he3 => ?_
    have k23 : ∀ b o, b ≠ e → h2.get? b = some o → h3.get? b = some o := fun b o hb z => k3 b o hb (Heap.get?_push_of_some _ z)
    have k13 : ∀ b o, b ≠ e → h1.get? b = some o → h3.get? b = some o := fun b o hb z => k23 b o hb (k2 b o z)
    have X3 : K.In h3 := fun b o z => k13 b o (fun y => by rw [y, hnx] at z; cases z) (X1 _ _ z)
    have hns3 : h3.Ns s.heap.objs.size m0 := by
      obtain ⟨oL, es, ep, hL, r⟩ := hns
      exact ⟨oL, es, ep, k13 _ _ hLe hL, r⟩
    show PySem.wpAt _ _ _ (execs _ _) _ _ _
    refine ks_wpAt_execs_cons (ks_wpAt_Assign_Attr ?_ rfl)
    refine wpAt_of_wpAny (wpAny_Name (wpAny_loadName_local rfl lsf hns3 e2 ?_) (eqs_ne T.ndb.symm))
    refine wpAny_Name (wpAny_loadName_local rfl xiS_self hns3 e1 ?_) (by decide)
    refine set_plain X3 (ox := excO C t1) (od := none) ⟨he3, rfl, rfl, trivial⟩ T.sa ?_
    refine run_store T.root X3 he3 hcl rfl rfl T.noN (fun h4 tk4 dx k4 dn dne he4 hn4 => ?_)
    show PySem.wpAt _ _ _ (execs _ _) _ _ _
    refine wpAt_of_wpAny (wpAny_execs_nil ?_)
    have z3 : s.heap.objs.size < h3.objs.size := hns3.lt
    exact hq h4 tk4 dx t1 (fun b o hb z => k4 b o hb (k13 b o hb (kk b o z))) he4 (Nat.le_of_lt (Nat.lt_of_lt_of_le z3 dn)) dne hn4
theorem tiedK_made (T : TiedK R rm newId initId prog K mg x f qual C fI) {v : Value} (X : K.In s.heap) (hlim : s.heap.NoLimit) (glob : s.heap.Ns mainGlobals mg) (blt : s.heap.Ns builtinsNs mb) (bb : ∀ y : Str, y ≠ "__name__" → mb y = bootBuiltins y) (hroom : A.depth + 1 < recursionLimit)
    (hq : ∀ h' tk e d, Made f s.heap h' e C d v → Rs (.ok (.ret (.ref e))) { s with heap := h', toks := tk }) :
    codeAny (model prog w) A (.call (.ref C) ⟨[v], []⟩) Rs s := by
  obtain ⟨nm, q, N, bs, sn, sub, ab, col, dd, k0, k1, k2, k3, k5, hC⟩ := T.cls
  obtain ⟨B, iN, bmN, FB, hB⟩ := T.root.src
  obtain ⟨hp, g, dr, tk, os⟩ := s
  have k : ∀ b o, hp.get? b = some o → ((hp.push (kdv_tup [v])).push (excO C hp.objs.size)).get? b = some o := fun b o e => Heap.get?_push_of_some _ (Heap.get?_push_of_some _ e)
  have hget : ((hp.push (kdv_tup [v])).push (excO C hp.objs.size)).get? (hp.objs.size + 1) = some (excO C hp.objs.size) := by heap_get
  have hnx : K.lookup (hp.objs.size + 1) = none := by
    cases e : K.lookup (hp.objs.size + 1) with
    | none => rfl
    | some o =>
      have z : hp.get? (hp.objs.size + 1) = some o := X _ _ e
      exact absurd (Nat.lt_of_succ_lt (Heap.lt_size z)) (Nat.lt_irrefl _)
  refine run_call FB hB T.root.noA T.root.noN (X _ _ hC) (looks_findIn X T.iC) (fun self => bind_fn X self T.tC) (one_sz v) ?_
  refine tiedK_init (s := ⟨(hp.push (kdv_tup [v])).push (excO C hp.objs.size), g, dr, tk, os⟩) T (X.keeps k) (hlim.keeps k) (glob.keeps k) (blt.keeps k) bb hget hnx ?_ (fun fd hf => .of_eq (T.bd fd _ _ hf)) fun h' tk' dx t1 k' hx dn dne hns => ?_
  · show A.depth + 1 < recursionLimit
    exact hroom
  · have old : ∀ b o, hp.get? b = some o → h'.get? b = some o := fun b o e => k' b o (Nat.ne_of_lt (Nat.lt_succ_of_lt (Heap.lt_size e))) (k b o e)
    have z : hp.objs.size + 1 + 1 ≤ dx := by
      have q := dn
      rw [Heap.size_push, Heap.size_push] at q
      exact q
    exact ⟨rfl, hq h' tk' (hp.objs.size + 1) dx ⟨old, Nat.le_succ _, ⟨t1, hx⟩, Nat.le_trans (Nat.le_trans (Nat.le_succ _) (Nat.le_succ _)) z, dne, hns⟩⟩
end
section
variable {X : Cx} {x f qual : Str} {C fI : Addr} {p pos : Pos} {e : Expr} {te : TA} {R newId initId : String} {rm : List Value}
theorem pmk_tiedK {k : Nat} (T : TiedK R rm newId initId X.prog X.K X.mg x f qual C fI) (hr : Room k X.A) (ha : PA X [e] te) (hg : Gl X x := by rfl) (hdb : (x == ("__debug__" : Str)) = false := by decide)
    (he : starEach (e :: []) X.env = (false, eval e X.env) :: starEach [] X.env := by rfl) (hpl : (backTo pos (starEach [] X.env)).any (·.1) = false := by rfl) :
    PMk X (.Call (.Name x p) [e] [] pos) (tMkT C f te) := by
  intro pins s σ H Q I h
  refine wpAny_Call_Name_kw (ld_glob I hg T.gC ?_ hdb)
  refine PySem.W.callWith_K (h₀ := X.base) I.ok.mod.kin T.kC (thn (ha.run pos pins s σ H _ I h) fun us s1 hh => ?_) he hpl
  obtain ⟨vs, H1, I1, r1, v, ev, q1⟩ := hh
  subst ev
  refine ⟨I1.kIn, ?_⟩
  cases r1 with
  | cons rv rn =>
    rename_i v' us'
    cases rn
    show wpAny _ _ (call (.ref C) [v']) _ _ _
    obtain ⟨mb, blt, bb⟩ := I1.mod.blt
    have lim := I1.nolimit
    have glob := I1.mod.glob.keeps I1.bk
    have blt1 := blt.keeps I1.bk
    obtain ⟨hp, g, dr, tk, os⟩ := s1
    refine wpAny_call (tiedK_made T I1.kIn lim glob blt1 bb (by have := hr.dp; omega) fun h' tk' e d M => ?_)
    show MkP X pins σ Q (.ref e) ⟨h', g, dr, tk', os⟩
    obtain ⟨t1, hoe⟩ := M.obj
    have hns := M.ns
    obtain ⟨G', g1, g2⟩ := restrict h' fun b => decide (b ≠ e)
    have gk : ∀ b, b ≠ e → G'.get? b = h'.get? b := fun b hb => g1 b (decide_eq_true hb)
    have ge : G'.get? e = none := g2 e (by simp)
    have old : ∀ b o, hp.get? b = some o → G'.get? b = some o := fun b o q => (gk b (Nat.ne_of_lt (Nat.lt_of_lt_of_le (Heap.lt_size q) M.new))).trans (M.keep b o q)
    have ob : ObjOk X.prog X.w (upd H1 d (.xd [(f, v)])) G' d (.xd [(f, v)]) := ⟨_, hns.at (fun o q => (gk d M.dne).trans q), fun y => relO_one rv y⟩
    have J : Inv X pins σ (upd H1 d (.xd [(f, v)])) ⟨G', g, dr, tk', os⟩ := I1.laid (t' := tk') old M.dbig ob
    refine ⟨e, _, _, ⟨G', g, dr, tk', os⟩, _, .ref C, some d, rfl, J, fun b o q => ?_, ge, hoe, ⟨rfl, rfl⟩, rfl, rfl, ?_, rfl, I1.bare, raises_own T.exC T.tyC, q1 d (I1.hok.fresh M.dbig)⟩
    · by_cases hb : b = e
      · have q' : G'.get? b = some o := q
        rw [hb, ge] at q'
        cases q'
      · exact (gk b hb).symm.trans q
    · rw [upd_ne (Ne.symm M.dne)]
      exact I1.hok.fresh M.new
theorem ps_raiseK {W : WX} {k : Nat} {pos2 : Pos} (tk : Takes X W) (T : TiedK R rm newId initId X.prog X.K X.mg x f qual C fI) (hr : Room k X.A) (ha : PA X [e] te) (hc : X.calm = true := by rfl) (hg : Gl X x := by rfl) (hdb : (x == ("__debug__" : Str)) = false := by decide)
    (he : starEach (e :: []) X.env = (false, eval e X.env) :: starEach [] X.env := by rfl) (hpl : (backTo pos (starEach [] X.env)).any (·.1) = false := by rfl) :
    PS X (.Raise (some (.Call (.Name x p) [e] [] pos)) none pos2) (fun _ σ H => tMkT C f te σ H fun cls d H' => W cls d σ H') := ps_raise hc tk (pmk_tiedK T hr ha hg hdb he hpl)
end
end Z
set_option maxRecDepth 100000
set_option maxHeartbeats 4000000
namespace Z
open PySem PySem.Spec PyProof.Rows L2
def topS (i : Nat) : Stmt := PySem.Challenge.pw_tiedsteps_k42_who_may_wake_whom.main.body.getD i (.Pass ⟨0, 0, 0, 0⟩)
abbrev s_is_whole : Stmt := topS 12
theorem sc_is_whole : FnScope ["value"] ["value"] (defScope s_is_whole) := ⟨rfl, rfl, rfl, by decide +kernel, rfl, by decide +kernel, by decide +kernel⟩
abbrev s_is_number : Stmt := topS 13
theorem sc_is_number : FnScope ["value", "low", "high"] ["value", "low", "high"] (defScope s_is_number) := ⟨rfl, rfl, rfl, by decide +kernel, rfl, by decide +kernel, by decide +kernel⟩
abbrev s_is_word : Stmt := topS 14
theorem sc_is_word : FnScope ["value", "sign"] ["value"] (defScope s_is_word) := ⟨rfl, rfl, rfl, by decide +kernel, rfl, by decide +kernel, by decide +kernel⟩
abbrev s_is_digit : Stmt := topS 15
theorem sc_is_digit : FnScope ["value"] ["value"] (defScope s_is_digit) := ⟨rfl, rfl, rfl, by decide +kernel, rfl, by decide +kernel, by decide +kernel⟩
abbrev s_are_unlike_words : Stmt := topS 16
theorem sc_are_unlike_words : FnScope ["value", "low", "high", "word"] ["value", "low", "high"] (defScope s_are_unlike_words) := ⟨rfl, rfl, rfl, by decide +kernel, rfl, by decide +kernel, by decide +kernel⟩
abbrev s_ascending_words : Stmt := topS 17
theorem sc_ascending_words : FnScope ["words", "word"] ["words"] (defScope s_ascending_words) := ⟨rfl, rfl, rfl, by decide +kernel, rfl, by decide +kernel, by decide +kernel⟩
abbrev s_ascending_numbers : Stmt := topS 18
theorem sc_ascending_numbers : FnScope ["numbers", "number"] ["numbers"] (defScope s_ascending_numbers) := ⟨rfl, rfl, rfl, by decide +kernel, rfl, by decide +kernel, by decide +kernel⟩
abbrev s_word_at : Stmt := topS 23
theorem sc_word_at : FnScope ["text", "at", "last"] ["text", "at"] (defScope s_word_at) := ⟨rfl, rfl, rfl, by decide +kernel, rfl, by decide +kernel, by decide +kernel⟩
abbrev s_plan_at : Stmt := topS 24
theorem sc_plan_at : FnScope ["text", "at", "deep", "word", "parts", "sign", "found", "part"] ["text", "at", "deep"] (defScope s_plan_at) := ⟨rfl, rfl, rfl, by decide +kernel, rfl, by decide +kernel, by decide +kernel⟩
abbrev s_text_of : Stmt := topS 26
theorem sc_text_of : FnScope ["plan", "one", "other", "same", "unlike", "part"] ["plan"] (defScope s_text_of) := ⟨rfl, rfl, rfl, by decide +kernel, rfl, by decide +kernel, by decide +kernel⟩
abbrev s_leaves_of : Stmt := topS 27
theorem sc_leaves_of : FnScope ["plan", "found", "part"] ["plan"] (defScope s_leaves_of) := ⟨rfl, rfl, rfl, by decide +kernel, rfl, by decide +kernel, by decide +kernel⟩
abbrev s_stands_in : Stmt := topS 29
theorem sc_stands_in : FnScope ["plan", "whole", "part"] ["plan", "whole"] (defScope s_stands_in) := ⟨rfl, rfl, rfl, by decide +kernel, rfl, by decide +kernel, by decide +kernel⟩
abbrev s_plan_of : Stmt := topS 30
theorem sc_plan_of : FnScope ["value", "found"] ["value"] (defScope s_plan_of) := ⟨rfl, rfl, rfl, by decide +kernel, rfl, by decide +kernel, by decide +kernel⟩
abbrev s_Term___init__ : Stmt := inClass (topS 31) 0
theorem sc_Term___init__ : FnScope ["self", "value", "plan"] ["self", "value"] (defScope s_Term___init__) := ⟨rfl, rfl, rfl, by decide +kernel, rfl, by decide +kernel, by decide +kernel⟩
abbrev s_Term_choice : Stmt := inClass (topS 31) 1
theorem sc_Term_choice : FnScope ["one", "other", "same", "unlike", "plans", "value", "plan"] ["one", "other", "same", "unlike"] (defScope s_Term_choice) := ⟨rfl, rfl, rfl, by decide +kernel, rfl, by decide +kernel, by decide +kernel⟩
abbrev s_Term___str__ : Stmt := inClass (topS 31) 2
theorem sc_Term___str__ : FnScope ["self"] ["self"] (defScope s_Term___str__) := ⟨rfl, rfl, rfl, by decide +kernel, rfl, by decide +kernel, by decide +kernel⟩
abbrev s_Term_variables : Stmt := inClass (topS 31) 5
theorem sc_Term_variables : FnScope ["self", "leaf"] ["self"] (defScope s_Term_variables) := ⟨rfl, rfl, rfl, by decide +kernel, rfl, by decide +kernel, by decide +kernel⟩
abbrev s_Term_constants : Stmt := inClass (topS 31) 6
theorem sc_Term_constants : FnScope ["self", "leaf"] ["self"] (defScope s_Term_constants) := ⟨rfl, rfl, rfl, by decide +kernel, rfl, by decide +kernel, by decide +kernel⟩
abbrev s_Term_parts : Stmt := inClass (topS 31) 7
theorem sc_Term_parts : FnScope ["self", "part"] ["self"] (defScope s_Term_parts) := ⟨rfl, rfl, rfl, by decide +kernel, rfl, by decide +kernel, by decide +kernel⟩
abbrev s_Term___eq__ : Stmt := inClass (topS 31) 12
theorem sc_Term___eq__ : FnScope ["self", "other"] ["self", "other"] (defScope s_Term___eq__) := ⟨rfl, rfl, rfl, by decide +kernel, rfl, by decide +kernel, by decide +kernel⟩
abbrev s_Term_within : Stmt := inClass (topS 31) 13
theorem sc_Term_within : FnScope ["self", "other"] ["self", "other"] (defScope s_Term_within) := ⟨rfl, rfl, rfl, by decide +kernel, rfl, by decide +kernel, by decide +kernel⟩
abbrev s_deed_parts : Stmt := topS 38
theorem sc_deed_parts : FnScope ["text", "sign", "late", "parts"] ["text"] (defScope s_deed_parts) := ⟨rfl, rfl, rfl, by decide +kernel, rfl, by decide +kernel, by decide +kernel⟩
abbrev s_Deed___init__ : Stmt := inClass (topS 39) 0
theorem sc_Deed___init__ : FnScope ["self", "variable", "term", "late"] ["self", "variable", "term", "late"] (defScope s_Deed___init__) := ⟨rfl, rfl, rfl, by decide +kernel, rfl, by decide +kernel, by decide +kernel⟩
abbrev s_Deed_of : Stmt := inClass (topS 39) 1
theorem sc_Deed_of : FnScope ["text", "parts", "variable", "term", "late"] ["text"] (defScope s_Deed_of) := ⟨rfl, rfl, rfl, by decide +kernel, rfl, by decide +kernel, by decide +kernel⟩
abbrev s_Deed_variable : Stmt := inClass (topS 39) 2
theorem sc_Deed_variable : FnScope ["self"] ["self"] (defScope s_Deed_variable) := ⟨rfl, rfl, rfl, by decide +kernel, rfl, by decide +kernel, by decide +kernel⟩
abbrev s_Deed_term : Stmt := inClass (topS 39) 3
theorem sc_Deed_term : FnScope ["self"] ["self"] (defScope s_Deed_term) := ⟨rfl, rfl, rfl, by decide +kernel, rfl, by decide +kernel, by decide +kernel⟩
abbrev s_Deed_late : Stmt := inClass (topS 39) 4
theorem sc_Deed_late : FnScope ["self"] ["self"] (defScope s_Deed_late) := ⟨rfl, rfl, rfl, by decide +kernel, rfl, by decide +kernel, by decide +kernel⟩
abbrev s_Deed___str__ : Stmt := inClass (topS 39) 6
theorem sc_Deed___str__ : FnScope ["self", "sign"] ["self"] (defScope s_Deed___str__) := ⟨rfl, rfl, rfl, by decide +kernel, rfl, by decide +kernel, by decide +kernel⟩
abbrev s_Deed___eq__ : Stmt := inClass (topS 39) 7
theorem sc_Deed___eq__ : FnScope ["self", "other"] ["self", "other"] (defScope s_Deed___eq__) := ⟨rfl, rfl, rfl, by decide +kernel, rfl, by decide +kernel, by decide +kernel⟩
abbrev s_deeds_of : Stmt := topS 40
theorem sc_deeds_of : FnScope ["values", "found", "value"] ["values"] (defScope s_deeds_of) := ⟨rfl, rfl, rfl, by decide +kernel, rfl, by decide +kernel, by decide +kernel⟩
abbrev s_Process___init__ : Stmt := inClass (topS 41) 0
theorem sc_Process___init__ : FnScope ["self", "name", "waits", "deeds", "done"] ["self", "name", "waits", "deeds"] (defScope s_Process___init__) := ⟨rfl, rfl, rfl, by decide +kernel, rfl, by decide +kernel, by decide +kernel⟩
abbrev s_Process_name : Stmt := inClass (topS 41) 1
theorem sc_Process_name : FnScope ["self"] ["self"] (defScope s_Process_name) := ⟨rfl, rfl, rfl, by decide +kernel, rfl, by decide +kernel, by decide +kernel⟩
abbrev s_Process_reads : Stmt := inClass (topS 41) 5
theorem sc_Process_reads : FnScope ["self", "deed", "word"] ["self"] (defScope s_Process_reads) := ⟨rfl, rfl, rfl, by decide +kernel, rfl, by decide +kernel, by decide +kernel⟩
abbrev s_Process_writes : Stmt := inClass (topS 41) 6
theorem sc_Process_writes : FnScope ["self", "deed"] ["self"] (defScope s_Process_writes) := ⟨rfl, rfl, rfl, by decide +kernel, rfl, by decide +kernel, by decide +kernel⟩
abbrev s_Process_written : Stmt := inClass (topS 41) 7
theorem sc_Process_written : FnScope ["self", "late", "deed"] ["self", "late"] (defScope s_Process_written) := ⟨rfl, rfl, rfl, by decide +kernel, rfl, by decide +kernel, by decide +kernel⟩
abbrev s_Process_constants : Stmt := inClass (topS 41) 8
theorem sc_Process_constants : FnScope ["self", "deed", "number"] ["self"] (defScope s_Process_constants) := ⟨rfl, rfl, rfl, by decide +kernel, rfl, by decide +kernel, by decide +kernel⟩
abbrev s_Process_variables : Stmt := inClass (topS 41) 9
theorem sc_Process_variables : FnScope ["self"] ["self"] (defScope s_Process_variables) := ⟨rfl, rfl, rfl, by decide +kernel, rfl, by decide +kernel, by decide +kernel⟩
abbrev s_Process_at_once : Stmt := inClass (topS 41) 10
theorem sc_Process_at_once : FnScope ["self", "index", "deed"] ["self"] (defScope s_Process_at_once) := ⟨rfl, rfl, rfl, by decide +kernel, rfl, by decide +kernel, by decide +kernel⟩
abbrev s_are_processes : Stmt := topS 48
theorem sc_are_processes : FnScope ["value", "part"] ["value"] (defScope s_are_processes) := ⟨rfl, rfl, rfl, by decide +kernel, rfl, by decide +kernel, by decide +kernel⟩
abbrev s_are_inputs : Stmt := topS 49
theorem sc_are_inputs : FnScope ["value", "processes", "process", "word"] ["value", "processes"] (defScope s_are_inputs) := ⟨rfl, rfl, rfl, by decide +kernel, rfl, by decide +kernel, by decide +kernel⟩
abbrev s_all_variables : Stmt := topS 50
theorem sc_all_variables : FnScope ["processes", "inputs", "process", "word"] ["processes", "inputs"] (defScope s_all_variables) := ⟨rfl, rfl, rfl, by decide +kernel, rfl, by decide +kernel, by decide +kernel⟩
abbrev s_all_constants : Stmt := topS 51
theorem sc_all_constants : FnScope ["processes", "process", "number"] ["processes"] (defScope s_all_constants) := ⟨rfl, rfl, rfl, by decide +kernel, rfl, by decide +kernel, by decide +kernel⟩
abbrev s_first_wrong : Stmt := topS 52
theorem sc_first_wrong : FnScope ["processes", "inputs", "process"] ["processes", "inputs"] (defScope s_first_wrong) := ⟨rfl, rfl, rfl, by decide +kernel, rfl, by decide +kernel, by decide +kernel⟩
abbrev s_Program___init__ : Stmt := inClass (topS 53) 0
theorem sc_Program___init__ : FnScope ["self", "processes", "inputs", "wrong", "process"] ["self", "processes", "inputs"] (defScope s_Program___init__) := ⟨rfl, rfl, rfl, by decide +kernel, rfl, by decide +kernel, by decide +kernel⟩
abbrev s_Program_names : Stmt := inClass (topS 53) 1
theorem sc_Program_names : FnScope ["self"] ["self"] (defScope s_Program_names) := ⟨rfl, rfl, rfl, by decide +kernel, rfl, by decide +kernel, by decide +kernel⟩
abbrev s_Program_place_of : Stmt := inClass (topS 53) 6
theorem sc_Program_place_of : FnScope ["self", "name", "names"] ["self", "name"] (defScope s_Program_place_of) := ⟨rfl, rfl, rfl, by decide +kernel, rfl, by decide +kernel, by decide +kernel⟩
abbrev s_Program___len__ : Stmt := inClass (topS 53) 10
theorem sc_Program___len__ : FnScope ["self"] ["self"] (defScope s_Program___len__) := ⟨rfl, rfl, rfl, by decide +kernel, rfl, by decide +kernel, by decide +kernel⟩
abbrev s_waiters : Stmt := topS 54
theorem sc_waiters : FnScope ["program", "variable", "place", "process"] ["program", "variable"] (defScope s_waiters) := ⟨rfl, rfl, rfl, by decide +kernel, rfl, by decide +kernel, by decide +kernel⟩
abbrev s_woken_at_once : Stmt := topS 56
theorem sc_woken_at_once : FnScope ["program", "place", "found", "variable", "other"] ["program", "place"] (defScope s_woken_at_once) := ⟨rfl, rfl, rfl, by decide +kernel, rfl, by decide +kernel, by decide +kernel⟩
abbrev s_woken_late : Stmt := topS 57
theorem sc_woken_late : FnScope ["program", "place", "found", "variable", "other"] ["program", "place"] (defScope s_woken_late) := ⟨rfl, rfl, rfl, by decide +kernel, rfl, by decide +kernel, by decide +kernel⟩
abbrev s_woken_by : Stmt := topS 58
theorem sc_woken_by : FnScope ["program", "place", "late", "once", "other"] ["program", "place"] (defScope s_woken_by) := ⟨rfl, rfl, rfl, by decide +kernel, rfl, by decide +kernel, by decide +kernel⟩
abbrev s_wakes : Stmt := topS 59
theorem sc_wakes : FnScope ["program", "one", "other", "place", "beside"] ["program", "one", "other"] (defScope s_wakes) := ⟨rfl, rfl, rfl, by decide +kernel, rfl, by decide +kernel, by decide +kernel⟩
abbrev s_wakings : Stmt := topS 60
theorem sc_wakings : FnScope ["program", "names", "place", "other"] ["program"] (defScope s_wakings) := ⟨rfl, rfl, rfl, by decide +kernel, rfl, by decide +kernel, by decide +kernel⟩
abbrev s__law_pool : Stmt := topS 62
theorem sc__law_pool : FnScope ["script", "k", "cell", "size", "mixed"] ["script", "k"] (defScope s__law_pool) := ⟨rfl, rfl, rfl, by decide +kernel, rfl, by decide +kernel, by decide +kernel⟩
abbrev s__law_take : Stmt := topS 63
theorem sc__law_take : FnScope ["pool", "bound", "result"] ["pool", "bound"] (defScope s__law_take) := ⟨rfl, rfl, rfl, by decide +kernel, rfl, by decide +kernel, by decide +kernel⟩
abbrev s__law_one : Stmt := topS 64
theorem sc__law_one : FnScope ["pool", "things"] ["pool", "things"] (defScope s__law_one) := ⟨rfl, rfl, rfl, by decide +kernel, rfl, by decide +kernel, by decide +kernel⟩
abbrev s__law_turned : Stmt := topS 65
theorem sc__law_turned : FnScope ["pool", "things", "left", "found"] ["pool", "things"] (defScope s__law_turned) := ⟨rfl, rfl, rfl, by decide +kernel, rfl, by decide +kernel, by decide +kernel⟩
abbrev s__law_words : Stmt := topS 66
theorem sc__law_words : FnScope ["pool", "bound", "letters", "first", "stride", "head", "tail", "turn", "spot"] ["pool", "bound"] (defScope s__law_words) := ⟨rfl, rfl, rfl, by decide +kernel, rfl, by decide +kernel, by decide +kernel⟩
abbrev s__law_tree : Stmt := topS 67
theorem sc__law_tree : FnScope ["pool", "words", "digits", "deep", "part"] ["pool", "words", "digits", "deep"] (defScope s__law_tree) := ⟨rfl, rfl, rfl, by decide +kernel, rfl, by decide +kernel, by decide +kernel⟩
abbrev s__law_tree_text : Stmt := topS 68
theorem sc__law_tree_text : FnScope ["tree", "near", "far", "yes", "no", "part"] ["tree"] (defScope s__law_tree_text) := ⟨rfl, rfl, rfl, by decide +kernel, rfl, by decide +kernel, by decide +kernel⟩
abbrev s__law_deed_text : Stmt := topS 69
theorem sc__law_deed_text : FnScope ["deed"] ["deed"] (defScope s__law_deed_text) := ⟨rfl, rfl, rfl, by decide +kernel, rfl, by decide +kernel, by decide +kernel⟩
abbrev s__law_deeds_drawn : Stmt := topS 70
theorem sc__law_deeds_drawn : FnScope ["pool", "written", "words", "digits", "bound", "deep", "found", "turn", "tree"] ["pool", "written", "words", "digits", "bound", "deep"] (defScope s__law_deeds_drawn) := ⟨rfl, rfl, rfl, by decide +kernel, rfl, by decide +kernel, by decide +kernel⟩
abbrev s__law_plain : Stmt := topS 71
theorem sc__law_plain : FnScope ["pool", "many_processes", "many_deeds", "deep", "words", "taken", "written", "digits", "processes", "titles", "name", "waits", "deeds"] ["pool", "many_processes", "many_deeds", "deep"] (defScope s__law_plain) := ⟨rfl, rfl, rfl, by decide +kernel, rfl, by decide +kernel, by decide +kernel⟩
abbrev s__law_less_at_once : Stmt := topS 72
theorem sc__law_less_at_once : FnScope ["plain", "left", "processes", "name", "waits", "deeds", "made", "variable", "is_late", "tree"] ["plain"] (defScope s__law_less_at_once) := ⟨rfl, rfl, rfl, by decide +kernel, rfl, by decide +kernel, by decide +kernel⟩
abbrev s__law_made_process : Stmt := topS 73
theorem sc__law_made_process : FnScope ["entry", "deed"] ["entry"] (defScope s__law_made_process) := ⟨rfl, rfl, rfl, by decide +kernel, rfl, by decide +kernel, by decide +kernel⟩
abbrev s__law_made : Stmt := topS 74
theorem sc__law_made : FnScope ["plain", "entry"] ["plain"] (defScope s__law_made) := ⟨rfl, rfl, rfl, by decide +kernel, rfl, by decide +kernel, by decide +kernel⟩
abbrev s__law_may_wake : Stmt := topS 75
theorem sc__law_may_wake : FnScope ["near", "far", "is_same", "variable", "is_late", "tree"] ["near", "far", "is_same"] (defScope s__law_may_wake) := ⟨rfl, rfl, rfl, by decide +kernel, rfl, by decide +kernel, by decide +kernel⟩
abbrev s__law_refused : Stmt := topS 76
theorem sc__law_refused : FnScope ["program", "one", "other", "e"] ["program", "one", "other"] (defScope s__law_refused) := ⟨rfl, rfl, rfl, by decide +kernel, rfl, by decide +kernel, by decide +kernel⟩
abbrev s_law : Stmt := topS 77
theorem sc_law : FnScope ["script", "k", "pool", "plain", "program", "due", "near", "far", "told", "first", "odd"] ["script"] (defScope s_law) := ⟨rfl, rfl, rfl, by decide +kernel, rfl, by decide +kernel, by decide +kernel⟩
structure Ad where
  C_TiedError : Addr
  C_NoTerm : Addr
  i_NoTerm : Addr
  C_NoDeed : Addr
  i_NoDeed : Addr
  C_NoProcess : Addr
  i_NoProcess : Addr
  C_NoProgram : Addr
  i_NoProgram : Addr
  C_NoName : Addr
  i_NoName : Addr
  f_is_whole : Addr
  d_is_whole : FuncData
  f_is_number : Addr
  d_is_number : FuncData
  f_is_word : Addr
  d_is_word : FuncData
  f_is_digit : Addr
  d_is_digit : FuncData
  f_are_unlike_words : Addr
  d_are_unlike_words : FuncData
  f_ascending_words : Addr
  d_ascending_words : FuncData
  f_ascending_numbers : Addr
  d_ascending_numbers : FuncData
  v_SIGNS : Addr
  f_word_at : Addr
  d_word_at : FuncData
  f_plan_at : Addr
  d_plan_at : FuncData
  f_text_of : Addr
  d_text_of : FuncData
  f_leaves_of : Addr
  d_leaves_of : FuncData
  f_stands_in : Addr
  d_stands_in : FuncData
  f_plan_of : Addr
  d_plan_of : FuncData
  C_Term : Addr
  f_Term___init__ : Addr
  d_Term___init__ : FuncData
  f_Term_choice : Addr
  d_Term_choice : FuncData
  p_Term_choice : Addr
  f_Term___str__ : Addr
  d_Term___str__ : FuncData
  f_Term_variables : Addr
  d_Term_variables : FuncData
  f_Term_constants : Addr
  d_Term_constants : FuncData
  f_Term_parts : Addr
  d_Term_parts : FuncData
  f_Term___eq__ : Addr
  d_Term___eq__ : FuncData
  f_Term_within : Addr
  d_Term_within : FuncData
  f_deed_parts : Addr
  d_deed_parts : FuncData
  C_Deed : Addr
  f_Deed___init__ : Addr
  d_Deed___init__ : FuncData
  f_Deed_of : Addr
  d_Deed_of : FuncData
  p_Deed_of : Addr
  f_Deed_variable : Addr
  d_Deed_variable : FuncData
  p_Deed_variable : Addr
  f_Deed_term : Addr
  d_Deed_term : FuncData
  p_Deed_term : Addr
  f_Deed_late : Addr
  d_Deed_late : FuncData
  p_Deed_late : Addr
  f_Deed___str__ : Addr
  d_Deed___str__ : FuncData
  f_Deed___eq__ : Addr
  d_Deed___eq__ : FuncData
  f_deeds_of : Addr
  d_deeds_of : FuncData
  C_Process : Addr
  f_Process___init__ : Addr
  d_Process___init__ : FuncData
  f_Process_name : Addr
  d_Process_name : FuncData
  p_Process_name : Addr
  f_Process_reads : Addr
  d_Process_reads : FuncData
  f_Process_writes : Addr
  d_Process_writes : FuncData
  f_Process_written : Addr
  d_Process_written : FuncData
  f_Process_constants : Addr
  d_Process_constants : FuncData
  f_Process_variables : Addr
  d_Process_variables : FuncData
  f_Process_at_once : Addr
  d_Process_at_once : FuncData
  f_are_processes : Addr
  d_are_processes : FuncData
  f_are_inputs : Addr
  d_are_inputs : FuncData
  f_all_variables : Addr
  d_all_variables : FuncData
  f_all_constants : Addr
  d_all_constants : FuncData
  f_first_wrong : Addr
  d_first_wrong : FuncData
  C_Program : Addr
  f_Program___init__ : Addr
  d_Program___init__ : FuncData
  f_Program_names : Addr
  d_Program_names : FuncData
  f_Program_place_of : Addr
  d_Program_place_of : FuncData
  f_Program___len__ : Addr
  d_Program___len__ : FuncData
  f_waiters : Addr
  d_waiters : FuncData
  f_woken_at_once : Addr
  d_woken_at_once : FuncData
  f_woken_late : Addr
  d_woken_late : FuncData
  f_woken_by : Addr
  d_woken_by : FuncData
  f_wakes : Addr
  d_wakes : FuncData
  f_wakings : Addr
  d_wakings : FuncData
  f__law_pool : Addr
  d__law_pool : FuncData
  f__law_take : Addr
  d__law_take : FuncData
  f__law_one : Addr
  d__law_one : FuncData
  f__law_turned : Addr
  d__law_turned : FuncData
  f__law_words : Addr
  d__law_words : FuncData
  f__law_tree : Addr
  d__law_tree : FuncData
  f__law_tree_text : Addr
  d__law_tree_text : FuncData
  f__law_deed_text : Addr
  d__law_deed_text : FuncData
  f__law_deeds_drawn : Addr
  d__law_deeds_drawn : FuncData
  f__law_plain : Addr
  d__law_plain : FuncData
  f__law_less_at_once : Addr
  d__law_less_at_once : FuncData
  f__law_made_process : Addr
  d__law_made_process : FuncData
  f__law_made : Addr
  d__law_made : FuncData
  f__law_may_wake : Addr
  d__law_may_wake : FuncData
  f__law_refused : Addr
  d__law_refused : FuncData
  f_law : Addr
  d_law : FuncData
structure Tx (P : Program) (K : PySem.W.Frag) (mg : Str → Option Value) (a : Ad) : Prop where
  g_TiedError : mg "TiedError" = some (.ref a.C_TiedError)
  te_NoTerm : PySem.W.exmOne K (.ref a.C_NoTerm) (.ref a.C_NoTerm) = some true
  kb_NoTerm_TiedError : PySem.W.kitOne K (.ref a.C_NoTerm) (.ref a.C_TiedError) = some true
  e_NoTerm : Tied P K mg "NoTerm" "value" "NoTerm.__init__" a.C_NoTerm a.i_NoTerm
  te_NoDeed : PySem.W.exmOne K (.ref a.C_NoDeed) (.ref a.C_NoDeed) = some true
  kb_NoDeed_TiedError : PySem.W.kitOne K (.ref a.C_NoDeed) (.ref a.C_TiedError) = some true
  e_NoDeed : Tied P K mg "NoDeed" "value" "NoDeed.__init__" a.C_NoDeed a.i_NoDeed
  te_NoProcess : PySem.W.exmOne K (.ref a.C_NoProcess) (.ref a.C_NoProcess) = some true
  kb_NoProcess_TiedError : PySem.W.kitOne K (.ref a.C_NoProcess) (.ref a.C_TiedError) = some true
  e_NoProcess : Tied P K mg "NoProcess" "part" "NoProcess.__init__" a.C_NoProcess a.i_NoProcess
  te_NoProgram : PySem.W.exmOne K (.ref a.C_NoProgram) (.ref a.C_NoProgram) = some true
  kb_NoProgram_TiedError : PySem.W.kitOne K (.ref a.C_NoProgram) (.ref a.C_TiedError) = some true
  e_NoProgram : Tied P K mg "NoProgram" "part" "NoProgram.__init__" a.C_NoProgram a.i_NoProgram
  te_NoName : PySem.W.exmOne K (.ref a.C_NoName) (.ref a.C_NoName) = some true
  kr_NoName : PySem.W.kitOne K (.ref a.C_NoName) (.type "KeyError") = some true
  b_KeyError : mg "KeyError" = none
  e_NoName : TiedK "KeyError" [.type "KeyError", .type "LookupError", .type "Exception", .type "BaseException", .type "object"] "LookupError.__new__" "KeyError.__init__" P K mg "NoName" "who" "NoName.__init__" a.C_NoName a.i_NoName
  v_LETTERS : ∃ t, mg "LETTERS" = some (.str "abcdefghijklmnopqrstuvwxyz" t)
  v_DIGITS : ∃ t, mg "DIGITS" = some (.str "0123456789" t)
  v_MOST_LETTERS : ∃ t, mg "MOST_LETTERS" = some (.int 8 t)
  is_whole : Df K mg "is_whole" s_is_whole ["value"] a.f_is_whole a.d_is_whole
  is_number : Df K mg "is_number" s_is_number ["value", "low", "high"] a.f_is_number a.d_is_number
  is_word : Df K mg "is_word" s_is_word ["value"] a.f_is_word a.d_is_word
  is_digit : Df K mg "is_digit" s_is_digit ["value"] a.f_is_digit a.d_is_digit
  are_unlike_words : Df K mg "are_unlike_words" s_are_unlike_words ["value", "low", "high"] a.f_are_unlike_words a.d_are_unlike_words
  ascending_words : Df K mg "ascending_words" s_ascending_words ["words"] a.f_ascending_words a.d_ascending_words
  ascending_numbers : Df K mg "ascending_numbers" s_ascending_numbers ["numbers"] a.f_ascending_numbers a.d_ascending_numbers
  v_MOST_DEPTH : ∃ t, mg "MOST_DEPTH" = some (.int 3 t)
  v_MOST_CONSTANT : ∃ t, mg "MOST_CONSTANT" = some (.int 9 t)
  v_SIGNS : mg "SIGNS" = some (.ref a.v_SIGNS)
  w_SIGNS : ∀ H : Hp, SqT K H a.v_SIGNS [.str "(", .str "=", .str "?", .str ":", .str ")"]
  word_at : Df K mg "word_at" s_word_at ["text", "at"] a.f_word_at a.d_word_at
  plan_at : Df K mg "plan_at" s_plan_at ["text", "at", "deep"] a.f_plan_at a.d_plan_at
  text_of : Df K mg "text_of" s_text_of ["plan"] a.f_text_of a.d_text_of
  leaves_of : Df K mg "leaves_of" s_leaves_of ["plan"] a.f_leaves_of a.d_leaves_of
  stands_in : Df K mg "stands_in" s_stands_in ["plan", "whole"] a.f_stands_in a.d_stands_in
  plan_of : Df K mg "plan_of" s_plan_of ["value"] a.f_plan_of a.d_plan_of
  g_Term : mg "Term" = some (.ref a.C_Term)
  c_Term : Cls K a.C_Term
  kp_Term : PySem.W.keepIn K (.ref a.C_Term) = true
  ty_Term : PySem.W.findIn K (.ref a.C_Term) "__class__" = some (some (.builtin "object.__class__"))
  mo_Term : PySem.W.mroIn K a.C_Term (.type "object") = some true
  kit_Term_NoneType : PySem.W.kitOne K (.type "NoneType") (.ref a.C_Term) = some false
  kit_Term_bool : PySem.W.kitOne K (.type "bool") (.ref a.C_Term) = some false
  kit_Term_int : PySem.W.kitOne K (.type "int") (.ref a.C_Term) = some false
  kit_Term_str : PySem.W.kitOne K (.type "str") (.ref a.C_Term) = some false
  kit_Term_list : PySem.W.kitOne K (.type "list") (.ref a.C_Term) = some false
  kit_Term_tuple : PySem.W.kitOne K (.type "tuple") (.ref a.C_Term) = some false
  kit_Term_dict : PySem.W.kitOne K (.type "dict") (.ref a.C_Term) = some false
  kik_Term_list : PySem.W.kitOne K (.ref a.C_Term) (.type "list") = some false
  kik_Term_tuple : PySem.W.kitOne K (.ref a.C_Term) (.type "tuple") = some false
  kik_Term_str : PySem.W.kitOne K (.ref a.C_Term) (.type "str") = some false
  kit_Term : PySem.W.kitOne K (.ref a.C_Term) (.ref a.C_Term) = some true
  Term___init__ : Fun K "__init__" "Term.__init__" s_Term___init__ a.f_Term___init__ a.d_Term___init__
  b_Term___init__ : Binds K a.d_Term___init__ ["self", "value"] []
  mk_Term : Mk K a.C_Term a.f_Term___init__
  Term_choice : Fun K "choice" "Term.choice" s_Term_choice a.f_Term_choice a.d_Term_choice
  b_Term_choice : Binds K a.d_Term_choice ["one", "other", "same", "unlike"] []
  m_Term_choice : CSta K a.C_Term (.type "type") "choice" a.p_Term_choice a.f_Term_choice
  Term___str__ : Fun K "__str__" "Term.__str__" s_Term___str__ a.f_Term___str__ a.d_Term___str__
  b_Term___str__ : Binds K a.d_Term___str__ ["self"] []
  m_Term___str__ : Meth K a.C_Term "__str__" a.f_Term___str__
  fm_Term : PySem.W.findIn K (.ref a.C_Term) "__format__" = some (some (.builtin "object.__format__"))
  Term_variables : Fun K "variables" "Term.variables" s_Term_variables a.f_Term_variables a.d_Term_variables
  b_Term_variables : Binds K a.d_Term_variables ["self"] []
  m_Term_variables : Meth K a.C_Term "variables" a.f_Term_variables
  Term_constants : Fun K "constants" "Term.constants" s_Term_constants a.f_Term_constants a.d_Term_constants
  b_Term_constants : Binds K a.d_Term_constants ["self"] []
  m_Term_constants : Meth K a.C_Term "constants" a.f_Term_constants
  Term_parts : Fun K "parts" "Term.parts" s_Term_parts a.f_Term_parts a.d_Term_parts
  b_Term_parts : Binds K a.d_Term_parts ["self"] []
  m_Term_parts : Meth K a.C_Term "parts" a.f_Term_parts
  Term___eq__ : Fun K "__eq__" "Term.__eq__" s_Term___eq__ a.f_Term___eq__ a.d_Term___eq__
  b_Term___eq__ : Binds K a.d_Term___eq__ ["self", "other"] []
  m_Term___eq__ : Meth K a.C_Term "__eq__" a.f_Term___eq__
  nx_Term_int : PySem.W.notFirst K a.C_Term (.type "int") = true
  nx_Term_tuple : PySem.W.notFirst K a.C_Term (.type "tuple") = true
  nx_Term_NoneType : PySem.W.notFirst K a.C_Term (.type "NoneType") = true
  nx_Term_bool : PySem.W.notFirst K a.C_Term (.type "bool") = true
  nx_Term_list : PySem.W.notFirst K a.C_Term (.type "list") = true
  nx_Term_dict : PySem.W.notFirst K a.C_Term (.type "dict") = true
  nf_Term : PySem.W.notFirst K a.C_Term (.type "str") = true
  ne_Term : PySem.W.findIn K (.ref a.C_Term) "__ne__" = some (some (.builtin "object.__ne__"))
  Term_within : Fun K "within" "Term.within" s_Term_within a.f_Term_within a.d_Term_within
  b_Term_within : Binds K a.d_Term_within ["self", "other"] []
  m_Term_within : Meth K a.C_Term "within" a.f_Term_within
  no_Term_tree : NoAttr K a.C_Term "tree"
  v_MOST_WAITS : ∃ t, mg "MOST_WAITS" = some (.int 4 t)
  v_MOST_DEEDS : ∃ t, mg "MOST_DEEDS" = some (.int 4 t)
  v_RESERVED : ∃ t, mg "RESERVED" = some (.str "turn" t)
  v_AT_ONCE : ∃ t, mg "AT_ONCE" = some (.str " := " t)
  v_AT_THE_END : ∃ t, mg "AT_THE_END" = some (.str " <= " t)
  deed_parts : Df K mg "deed_parts" s_deed_parts ["text"] a.f_deed_parts a.d_deed_parts
  g_Deed : mg "Deed" = some (.ref a.C_Deed)
  c_Deed : Cls K a.C_Deed
  kp_Deed : PySem.W.keepIn K (.ref a.C_Deed) = true
  ty_Deed : PySem.W.findIn K (.ref a.C_Deed) "__class__" = some (some (.builtin "object.__class__"))
  mo_Deed : PySem.W.mroIn K a.C_Deed (.type "object") = some true
  kit_Deed_NoneType : PySem.W.kitOne K (.type "NoneType") (.ref a.C_Deed) = some false
  kit_Deed_bool : PySem.W.kitOne K (.type "bool") (.ref a.C_Deed) = some false
  kit_Deed_int : PySem.W.kitOne K (.type "int") (.ref a.C_Deed) = some false
  kit_Deed_str : PySem.W.kitOne K (.type "str") (.ref a.C_Deed) = some false
  kit_Deed_list : PySem.W.kitOne K (.type "list") (.ref a.C_Deed) = some false
  kit_Deed_tuple : PySem.W.kitOne K (.type "tuple") (.ref a.C_Deed) = some false
  kit_Deed_dict : PySem.W.kitOne K (.type "dict") (.ref a.C_Deed) = some false
  kik_Deed_list : PySem.W.kitOne K (.ref a.C_Deed) (.type "list") = some false
  kik_Deed_tuple : PySem.W.kitOne K (.ref a.C_Deed) (.type "tuple") = some false
  kik_Deed_str : PySem.W.kitOne K (.ref a.C_Deed) (.type "str") = some false
  kit_Deed : PySem.W.kitOne K (.ref a.C_Deed) (.ref a.C_Deed) = some true
  Deed___init__ : Fun K "__init__" "Deed.__init__" s_Deed___init__ a.f_Deed___init__ a.d_Deed___init__
  kb_Deed___init__ : KBn K a.d_Deed___init__ ["self", "variable", "term", "late"] 3 ["late"] (fun us ws => us ++ ws) (fun vs zs => vs ++ zs)
  kd_Deed___init__ : ∃ ds, Vals [.bl false] ds ∧ Binds K a.d_Deed___init__ ["self", "variable", "term", "late"] ds
  mk_Deed : Mk K a.C_Deed a.f_Deed___init__
  Deed_of : Fun K "of" "Deed.of" s_Deed_of a.f_Deed_of a.d_Deed_of
  b_Deed_of : Binds K a.d_Deed_of ["text"] []
  m_Deed_of : CSta K a.C_Deed (.type "type") "of" a.p_Deed_of a.f_Deed_of
  Deed_variable : Fun K "variable" "Deed.variable" s_Deed_variable a.f_Deed_variable a.d_Deed_variable
  b_Deed_variable : Binds K a.d_Deed_variable ["self"] []
  p_Deed_variable : PropOf K a.C_Deed "variable" a.p_Deed_variable a.f_Deed_variable
  Deed_term : Fun K "term" "Deed.term" s_Deed_term a.f_Deed_term a.d_Deed_term
  b_Deed_term : Binds K a.d_Deed_term ["self"] []
  p_Deed_term : PropOf K a.C_Deed "term" a.p_Deed_term a.f_Deed_term
  Deed_late : Fun K "late" "Deed.late" s_Deed_late a.f_Deed_late a.d_Deed_late
  b_Deed_late : Binds K a.d_Deed_late ["self"] []
  p_Deed_late : PropOf K a.C_Deed "late" a.p_Deed_late a.f_Deed_late
  Deed___str__ : Fun K "__str__" "Deed.__str__" s_Deed___str__ a.f_Deed___str__ a.d_Deed___str__
  b_Deed___str__ : Binds K a.d_Deed___str__ ["self"] []
  m_Deed___str__ : Meth K a.C_Deed "__str__" a.f_Deed___str__
  fm_Deed : PySem.W.findIn K (.ref a.C_Deed) "__format__" = some (some (.builtin "object.__format__"))
  Deed___eq__ : Fun K "__eq__" "Deed.__eq__" s_Deed___eq__ a.f_Deed___eq__ a.d_Deed___eq__
  b_Deed___eq__ : Binds K a.d_Deed___eq__ ["self", "other"] []
  m_Deed___eq__ : Meth K a.C_Deed "__eq__" a.f_Deed___eq__
  nx_Deed_int : PySem.W.notFirst K a.C_Deed (.type "int") = true
  nx_Deed_tuple : PySem.W.notFirst K a.C_Deed (.type "tuple") = true
  nx_Deed_NoneType : PySem.W.notFirst K a.C_Deed (.type "NoneType") = true
  nx_Deed_bool : PySem.W.notFirst K a.C_Deed (.type "bool") = true
  nx_Deed_list : PySem.W.notFirst K a.C_Deed (.type "list") = true
  nx_Deed_dict : PySem.W.notFirst K a.C_Deed (.type "dict") = true
  nf_Deed : PySem.W.notFirst K a.C_Deed (.type "str") = true
  ne_Deed : PySem.W.findIn K (.ref a.C_Deed) "__ne__" = some (some (.builtin "object.__ne__"))
  no_Deed_is_late : NoAttr K a.C_Deed "is_late"
  no_Deed_source : NoAttr K a.C_Deed "source"
  no_Deed_target : NoAttr K a.C_Deed "target"
  deeds_of : Df K mg "deeds_of" s_deeds_of ["values"] a.f_deeds_of a.d_deeds_of
  g_Process : mg "Process" = some (.ref a.C_Process)
  c_Process : Cls K a.C_Process
  kp_Process : PySem.W.keepIn K (.ref a.C_Process) = true
  ty_Process : PySem.W.findIn K (.ref a.C_Process) "__class__" = some (some (.builtin "object.__class__"))
  mo_Process : PySem.W.mroIn K a.C_Process (.type "object") = some true
  kit_Process_NoneType : PySem.W.kitOne K (.type "NoneType") (.ref a.C_Process) = some false
  kit_Process_bool : PySem.W.kitOne K (.type "bool") (.ref a.C_Process) = some false
  kit_Process_int : PySem.W.kitOne K (.type "int") (.ref a.C_Process) = some false
  kit_Process_str : PySem.W.kitOne K (.type "str") (.ref a.C_Process) = some false
  kit_Process_list : PySem.W.kitOne K (.type "list") (.ref a.C_Process) = some false
  kit_Process_tuple : PySem.W.kitOne K (.type "tuple") (.ref a.C_Process) = some false
  kit_Process_dict : PySem.W.kitOne K (.type "dict") (.ref a.C_Process) = some false
  kik_Process_list : PySem.W.kitOne K (.ref a.C_Process) (.type "list") = some false
  kik_Process_tuple : PySem.W.kitOne K (.ref a.C_Process) (.type "tuple") = some false
  kik_Process_str : PySem.W.kitOne K (.ref a.C_Process) (.type "str") = some false
  kit_Process : PySem.W.kitOne K (.ref a.C_Process) (.ref a.C_Process) = some true
  Process___init__ : Fun K "__init__" "Process.__init__" s_Process___init__ a.f_Process___init__ a.d_Process___init__
  b_Process___init__ : Binds K a.d_Process___init__ ["self", "name", "waits", "deeds"] []
  mk_Process : Mk K a.C_Process a.f_Process___init__
  Process_name : Fun K "name" "Process.name" s_Process_name a.f_Process_name a.d_Process_name
  b_Process_name : Binds K a.d_Process_name ["self"] []
  p_Process_name : PropOf K a.C_Process "name" a.p_Process_name a.f_Process_name
  Process_reads : Fun K "reads" "Process.reads" s_Process_reads a.f_Process_reads a.d_Process_reads
  b_Process_reads : Binds K a.d_Process_reads ["self"] []
  m_Process_reads : Meth K a.C_Process "reads" a.f_Process_reads
  Process_writes : Fun K "writes" "Process.writes" s_Process_writes a.f_Process_writes a.d_Process_writes
  b_Process_writes : Binds K a.d_Process_writes ["self"] []
  m_Process_writes : Meth K a.C_Process "writes" a.f_Process_writes
  Process_written : Fun K "written" "Process.written" s_Process_written a.f_Process_written a.d_Process_written
  b_Process_written : Binds K a.d_Process_written ["self", "late"] []
  m_Process_written : Meth K a.C_Process "written" a.f_Process_written
  Process_constants : Fun K "constants" "Process.constants" s_Process_constants a.f_Process_constants a.d_Process_constants
  b_Process_constants : Binds K a.d_Process_constants ["self"] []
  m_Process_constants : Meth K a.C_Process "constants" a.f_Process_constants
  Process_variables : Fun K "variables" "Process.variables" s_Process_variables a.f_Process_variables a.d_Process_variables
  b_Process_variables : Binds K a.d_Process_variables ["self"] []
  m_Process_variables : Meth K a.C_Process "variables" a.f_Process_variables
  Process_at_once : Fun K "at_once" "Process.at_once" s_Process_at_once a.f_Process_at_once a.d_Process_at_once
  b_Process_at_once : Binds K a.d_Process_at_once ["self"] []
  m_Process_at_once : Meth K a.C_Process "at_once" a.f_Process_at_once
  no_Process_done : NoAttr K a.C_Process "done"
  no_Process_title : NoAttr K a.C_Process "title"
  no_Process_waited : NoAttr K a.C_Process "waited"
  v_MOST_PROCESSES : ∃ t, mg "MOST_PROCESSES" = some (.int 5 t)
  v_MOST_INPUTS : ∃ t, mg "MOST_INPUTS" = some (.int 3 t)
  v_MOST_VARIABLES : ∃ t, mg "MOST_VARIABLES" = some (.int 5 t)
  v_MOST_CONSTANTS : ∃ t, mg "MOST_CONSTANTS" = some (.int 2 t)
  v_MOST_AT_ONCE : ∃ t, mg "MOST_AT_ONCE" = some (.int 8 t)
  are_processes : Df K mg "are_processes" s_are_processes ["value"] a.f_are_processes a.d_are_processes
  are_inputs : Df K mg "are_inputs" s_are_inputs ["value", "processes"] a.f_are_inputs a.d_are_inputs
  all_variables : Df K mg "all_variables" s_all_variables ["processes", "inputs"] a.f_all_variables a.d_all_variables
  all_constants : Df K mg "all_constants" s_all_constants ["processes"] a.f_all_constants a.d_all_constants
  first_wrong : Df K mg "first_wrong" s_first_wrong ["processes", "inputs"] a.f_first_wrong a.d_first_wrong
  g_Program : mg "Program" = some (.ref a.C_Program)
  c_Program : Cls K a.C_Program
  kp_Program : PySem.W.keepIn K (.ref a.C_Program) = true
  ty_Program : PySem.W.findIn K (.ref a.C_Program) "__class__" = some (some (.builtin "object.__class__"))
  mo_Program : PySem.W.mroIn K a.C_Program (.type "object") = some true
  kit_Program_NoneType : PySem.W.kitOne K (.type "NoneType") (.ref a.C_Program) = some false
  kit_Program_bool : PySem.W.kitOne K (.type "bool") (.ref a.C_Program) = some false
  kit_Program_int : PySem.W.kitOne K (.type "int") (.ref a.C_Program) = some false
  kit_Program_str : PySem.W.kitOne K (.type "str") (.ref a.C_Program) = some false
  kit_Program_list : PySem.W.kitOne K (.type "list") (.ref a.C_Program) = some false
  kit_Program_tuple : PySem.W.kitOne K (.type "tuple") (.ref a.C_Program) = some false
  kit_Program_dict : PySem.W.kitOne K (.type "dict") (.ref a.C_Program) = some false
  kik_Program_list : PySem.W.kitOne K (.ref a.C_Program) (.type "list") = some false
  kik_Program_tuple : PySem.W.kitOne K (.ref a.C_Program) (.type "tuple") = some false
  kik_Program_str : PySem.W.kitOne K (.ref a.C_Program) (.type "str") = some false
  kit_Program : PySem.W.kitOne K (.ref a.C_Program) (.ref a.C_Program) = some true
  Program___init__ : Fun K "__init__" "Program.__init__" s_Program___init__ a.f_Program___init__ a.d_Program___init__
  b_Program___init__ : Binds K a.d_Program___init__ ["self", "processes", "inputs"] []
  mk_Program : Mk K a.C_Program a.f_Program___init__
  Program_names : Fun K "names" "Program.names" s_Program_names a.f_Program_names a.d_Program_names
  b_Program_names : Binds K a.d_Program_names ["self"] []
  m_Program_names : Meth K a.C_Program "names" a.f_Program_names
  Program_place_of : Fun K "place_of" "Program.place_of" s_Program_place_of a.f_Program_place_of a.d_Program_place_of
  b_Program_place_of : Binds K a.d_Program_place_of ["self", "name"] []
  m_Program_place_of : Meth K a.C_Program "place_of" a.f_Program_place_of
  Program___len__ : Fun K "__len__" "Program.__len__" s_Program___len__ a.f_Program___len__ a.d_Program___len__
  b_Program___len__ : Binds K a.d_Program___len__ ["self"] []
  m_Program___len__ : Meth K a.C_Program "__len__" a.f_Program___len__
  no_Program_given : NoAttr K a.C_Program "given"
  no_Program_line : NoAttr K a.C_Program "line"
  no_Program_numbers : NoAttr K a.C_Program "numbers"
  no_Program_titles : NoAttr K a.C_Program "titles"
  no_Program_words : NoAttr K a.C_Program "words"
  waiters : Df K mg "waiters" s_waiters ["program", "variable"] a.f_waiters a.d_waiters
  woken_at_once : Df K mg "woken_at_once" s_woken_at_once ["program", "place"] a.f_woken_at_once a.d_woken_at_once
  woken_late : Df K mg "woken_late" s_woken_late ["program", "place"] a.f_woken_late a.d_woken_late
  woken_by : Df K mg "woken_by" s_woken_by ["program", "place"] a.f_woken_by a.d_woken_by
  wakes : Df K mg "wakes" s_wakes ["program", "one", "other"] a.f_wakes a.d_wakes
  wakings : Df K mg "wakings" s_wakings ["program"] a.f_wakings a.d_wakings
  _law_pool : Df K mg "_law_pool" s__law_pool ["script", "k"] a.f__law_pool a.d__law_pool
  _law_take : Df K mg "_law_take" s__law_take ["pool", "bound"] a.f__law_take a.d__law_take
  _law_one : Df K mg "_law_one" s__law_one ["pool", "things"] a.f__law_one a.d__law_one
  _law_turned : Df K mg "_law_turned" s__law_turned ["pool", "things"] a.f__law_turned a.d__law_turned
  _law_words : Df K mg "_law_words" s__law_words ["pool", "bound"] a.f__law_words a.d__law_words
  _law_tree : Df K mg "_law_tree" s__law_tree ["pool", "words", "digits", "deep"] a.f__law_tree a.d__law_tree
  _law_tree_text : Df K mg "_law_tree_text" s__law_tree_text ["tree"] a.f__law_tree_text a.d__law_tree_text
  _law_deed_text : Df K mg "_law_deed_text" s__law_deed_text ["deed"] a.f__law_deed_text a.d__law_deed_text
  _law_deeds_drawn : Df K mg "_law_deeds_drawn" s__law_deeds_drawn ["pool", "written", "words", "digits", "bound", "deep"] a.f__law_deeds_drawn a.d__law_deeds_drawn
  _law_plain : Df K mg "_law_plain" s__law_plain ["pool", "many_processes", "many_deeds", "deep"] a.f__law_plain a.d__law_plain
  _law_less_at_once : Df K mg "_law_less_at_once" s__law_less_at_once ["plain"] a.f__law_less_at_once a.d__law_less_at_once
  _law_made_process : Df K mg "_law_made_process" s__law_made_process ["entry"] a.f__law_made_process a.d__law_made_process
  _law_made : Df K mg "_law_made" s__law_made ["plain"] a.f__law_made a.d__law_made
  _law_may_wake : Df K mg "_law_may_wake" s__law_may_wake ["near", "far", "is_same"] a.f__law_may_wake a.d__law_may_wake
  _law_refused : Df K mg "_law_refused" s__law_refused ["program", "one", "other"] a.f__law_refused a.d__law_refused
  law : Df K mg "law" s_law ["script"] a.f_law a.d_law
  blaw : ∀ (s : Shared) (u : Value), BindsTo s a.d_law ⟨[u], []⟩ [("script", u)]
  bi : Bi mg
  tn : PySem.W.specialIn K (.builtin "object.__class__") "__get__" = some (some (.builtin "getset_descriptor.__get__"))
  tt : PySem.W.takesIn K (.builtin "object.__class__") = some true
theorem tx_mk {P : Program} {K : PySem.W.Frag} {h : Heap} {mg : Str → Option Value} (X : K.In h) (G : h.Ns mainGlobals mg)
    {C_TiedError : Addr}
    {C_NoTerm N_NoTerm i_NoTerm : Addr} {nm_NoTerm q_NoTerm : Str} {bs_NoTerm bm_NoTerm su_NoTerm : List Value} {sn_NoTerm : List Str} {ab_NoTerm : Bool} {co_NoTerm : Option Bool} {dd_NoTerm : Option Addr} {k0_NoTerm k1_NoTerm k2_NoTerm k3_NoTerm k5_NoTerm : Option Value} {oc_NoTerm kV_NoTerm dc_NoTerm pm_NoTerm ct_NoTerm : Value} {od_NoTerm an_NoTerm : Option Addr} {cda_NoTerm cc_NoTerm : Addr} {sl_NoTerm : Array (Option Value)} {m_NoTerm : Str} {j_NoTerm : Nat} {p1_NoTerm p2_NoTerm q0_NoTerm q1_NoTerm q2_NoTerm q3_NoTerm q4_NoTerm q5_NoTerm r1_NoTerm r2_NoTerm r3_NoTerm r4_NoTerm : Pos} {ccl_NoTerm cl_NoTerm : Value} {cdd_NoTerm cld_NoTerm : Option Addr} {vs_NoTerm : Array Value} {ccs_NoTerm csl_NoTerm : Array (Option Value)} {file_NoTerm : Str} {tf_NoTerm : Tok}
    {C_NoDeed N_NoDeed i_NoDeed : Addr} {nm_NoDeed q_NoDeed : Str} {bs_NoDeed bm_NoDeed su_NoDeed : List Value} {sn_NoDeed : List Str} {ab_NoDeed : Bool} {co_NoDeed : Option Bool} {dd_NoDeed : Option Addr} {k0_NoDeed k1_NoDeed k2_NoDeed k3_NoDeed k5_NoDeed : Option Value} {oc_NoDeed kV_NoDeed dc_NoDeed pm_NoDeed ct_NoDeed : Value} {od_NoDeed an_NoDeed : Option Addr} {cda_NoDeed cc_NoDeed : Addr} {sl_NoDeed : Array (Option Value)} {m_NoDeed : Str} {j_NoDeed : Nat} {p1_NoDeed p2_NoDeed q0_NoDeed q1_NoDeed q2_NoDeed q3_NoDeed q4_NoDeed q5_NoDeed r1_NoDeed r2_NoDeed r3_NoDeed r4_NoDeed : Pos} {ccl_NoDeed cl_NoDeed : Value} {cdd_NoDeed cld_NoDeed : Option Addr} {vs_NoDeed : Array Value} {ccs_NoDeed csl_NoDeed : Array (Option Value)} {file_NoDeed : Str} {tf_NoDeed : Tok}
    {C_NoProcess N_NoProcess i_NoProcess : Addr} {nm_NoProcess q_NoProcess : Str} {bs_NoProcess bm_NoProcess su_NoProcess : List Value} {sn_NoProcess : List Str} {ab_NoProcess : Bool} {co_NoProcess : Option Bool} {dd_NoProcess : Option Addr} {k0_NoProcess k1_NoProcess k2_NoProcess k3_NoProcess k5_NoProcess : Option Value} {oc_NoProcess kV_NoProcess dc_NoProcess pm_NoProcess ct_NoProcess : Value} {od_NoProcess an_NoProcess : Option Addr} {cda_NoProcess cc_NoProcess : Addr} {sl_NoProcess : Array (Option Value)} {m_NoProcess : Str} {j_NoProcess : Nat} {p1_NoProcess p2_NoProcess q0_NoProcess q1_NoProcess q2_NoProcess q3_NoProcess q4_NoProcess q5_NoProcess r1_NoProcess r2_NoProcess r3_NoProcess r4_NoProcess : Pos} {ccl_NoProcess cl_NoProcess : Value} {cdd_NoProcess cld_NoProcess : Option Addr} {vs_NoProcess : Array Value} {ccs_NoProcess csl_NoProcess : Array (Option Value)} {file_NoProcess : Str} {tf_NoProcess : Tok}
    {C_NoProgram N_NoProgram i_NoProgram : Addr} {nm_NoProgram q_NoProgram : Str} {bs_NoProgram bm_NoProgram su_NoProgram : List Value} {sn_NoProgram : List Str} {ab_NoProgram : Bool} {co_NoProgram : Option Bool} {dd_NoProgram : Option Addr} {k0_NoProgram k1_NoProgram k2_NoProgram k3_NoProgram k5_NoProgram : Option Value} {oc_NoProgram kV_NoProgram dc_NoProgram pm_NoProgram ct_NoProgram : Value} {od_NoProgram an_NoProgram : Option Addr} {cda_NoProgram cc_NoProgram : Addr} {sl_NoProgram : Array (Option Value)} {m_NoProgram : Str} {j_NoProgram : Nat} {p1_NoProgram p2_NoProgram q0_NoProgram q1_NoProgram q2_NoProgram q3_NoProgram q4_NoProgram q5_NoProgram r1_NoProgram r2_NoProgram r3_NoProgram r4_NoProgram : Pos} {ccl_NoProgram cl_NoProgram : Value} {cdd_NoProgram cld_NoProgram : Option Addr} {vs_NoProgram : Array Value} {ccs_NoProgram csl_NoProgram : Array (Option Value)} {file_NoProgram : Str} {tf_NoProgram : Tok}
    {C_NoName N_NoName i_NoName : Addr} {nm_NoName q_NoName : Str} {bs_NoName su_NoName : List Value} {sn_NoName : List Str} {ab_NoName : Bool} {co_NoName : Option Bool} {dd_NoName : Option Addr} {k0_NoName k1_NoName k2_NoName k3_NoName k5_NoName : Option Value} {oc_NoName kV_NoName dc_NoName pm_NoName ct_NoName : Value} {od_NoName an_NoName : Option Addr} {cda_NoName cc_NoName : Addr} {sl_NoName : Array (Option Value)} {m_NoName : Str} {j_NoName : Nat} {p1_NoName p2_NoName q0_NoName q1_NoName q2_NoName q3_NoName q4_NoName q5_NoName r1_NoName r2_NoName r3_NoName r4_NoName : Pos} {ccl_NoName cl_NoName : Value} {cdd_NoName cld_NoName : Option Addr} {vs_NoName : Array Value} {ccs_NoName csl_NoName : Array (Option Value)} {file_NoName : Str} {tf_NoName : Tok}
    {t_LETTERS : Tok}
    {t_DIGITS : Tok}
    {t_MOST_LETTERS : Tok}
    {f_is_whole : Addr} {od_is_whole an_is_whole : Option Addr} {sl_is_whole : Array (Option Value)} {oc_is_whole kV_is_whole dc_is_whole pm_is_whole cd_is_whole ct_is_whole : Value}
    {f_is_number : Addr} {od_is_number an_is_number : Option Addr} {sl_is_number : Array (Option Value)} {oc_is_number kV_is_number dc_is_number pm_is_number cd_is_number ct_is_number : Value}
    {f_is_word : Addr} {od_is_word an_is_word : Option Addr} {sl_is_word : Array (Option Value)} {oc_is_word kV_is_word dc_is_word pm_is_word cd_is_word ct_is_word : Value}
    {f_is_digit : Addr} {od_is_digit an_is_digit : Option Addr} {sl_is_digit : Array (Option Value)} {oc_is_digit kV_is_digit dc_is_digit pm_is_digit cd_is_digit ct_is_digit : Value}
    {f_are_unlike_words : Addr} {od_are_unlike_words an_are_unlike_words : Option Addr} {sl_are_unlike_words : Array (Option Value)} {oc_are_unlike_words kV_are_unlike_words dc_are_unlike_words pm_are_unlike_words cd_are_unlike_words ct_are_unlike_words : Value}
    {f_ascending_words : Addr} {od_ascending_words an_ascending_words : Option Addr} {sl_ascending_words : Array (Option Value)} {oc_ascending_words kV_ascending_words dc_ascending_words pm_ascending_words cd_ascending_words ct_ascending_words : Value}
    {f_ascending_numbers : Addr} {od_ascending_numbers an_ascending_numbers : Option Addr} {sl_ascending_numbers : Array (Option Value)} {oc_ascending_numbers kV_ascending_numbers dc_ascending_numbers pm_ascending_numbers cd_ascending_numbers ct_ascending_numbers : Value}
    {t_MOST_DEPTH : Tok}
    {t_MOST_CONSTANT : Tok}
    {v_SIGNS : Addr} {t0_SIGNS t1_SIGNS t2_SIGNS t3_SIGNS t4_SIGNS : Tok} {dd_SIGNS : Option Addr} {n_SIGNS : Nat} {sl_SIGNS : Array (Option Value)}
    {f_word_at : Addr} {od_word_at an_word_at : Option Addr} {sl_word_at : Array (Option Value)} {oc_word_at kV_word_at dc_word_at pm_word_at cd_word_at ct_word_at : Value}
    {f_plan_at : Addr} {od_plan_at an_plan_at : Option Addr} {sl_plan_at : Array (Option Value)} {oc_plan_at kV_plan_at dc_plan_at pm_plan_at cd_plan_at ct_plan_at : Value}
    {f_text_of : Addr} {od_text_of an_text_of : Option Addr} {sl_text_of : Array (Option Value)} {oc_text_of kV_text_of dc_text_of pm_text_of cd_text_of ct_text_of : Value}
    {f_leaves_of : Addr} {od_leaves_of an_leaves_of : Option Addr} {sl_leaves_of : Array (Option Value)} {oc_leaves_of kV_leaves_of dc_leaves_of pm_leaves_of cd_leaves_of ct_leaves_of : Value}
    {f_stands_in : Addr} {od_stands_in an_stands_in : Option Addr} {sl_stands_in : Array (Option Value)} {oc_stands_in kV_stands_in dc_stands_in pm_stands_in cd_stands_in ct_stands_in : Value}
    {f_plan_of : Addr} {od_plan_of an_plan_of : Option Addr} {sl_plan_of : Array (Option Value)} {oc_plan_of kV_plan_of dc_plan_of pm_plan_of cd_plan_of ct_plan_of : Value}
    {C_Term : Addr}
    {f_Term___init__ : Addr} {od_Term___init__ an_Term___init__ : Option Addr} {sl_Term___init__ : Array (Option Value)} {oc_Term___init__ kV_Term___init__ dc_Term___init__ pm_Term___init__ cd_Term___init__ ct_Term___init__ : Value}
    {f_Term_choice : Addr} {od_Term_choice an_Term_choice : Option Addr} {sl_Term_choice : Array (Option Value)} {oc_Term_choice kV_Term_choice dc_Term_choice pm_Term_choice cd_Term_choice ct_Term_choice : Value}
    {p_Term_choice : Addr} {re_Term_choice : List Value}
    {f_Term___str__ : Addr} {od_Term___str__ an_Term___str__ : Option Addr} {sl_Term___str__ : Array (Option Value)} {oc_Term___str__ kV_Term___str__ dc_Term___str__ pm_Term___str__ cd_Term___str__ ct_Term___str__ : Value}
    {f_Term_variables : Addr} {od_Term_variables an_Term_variables : Option Addr} {sl_Term_variables : Array (Option Value)} {oc_Term_variables kV_Term_variables dc_Term_variables pm_Term_variables cd_Term_variables ct_Term_variables : Value}
    {f_Term_constants : Addr} {od_Term_constants an_Term_constants : Option Addr} {sl_Term_constants : Array (Option Value)} {oc_Term_constants kV_Term_constants dc_Term_constants pm_Term_constants cd_Term_constants ct_Term_constants : Value}
    {f_Term_parts : Addr} {od_Term_parts an_Term_parts : Option Addr} {sl_Term_parts : Array (Option Value)} {oc_Term_parts kV_Term_parts dc_Term_parts pm_Term_parts cd_Term_parts ct_Term_parts : Value}
    {f_Term___eq__ : Addr} {od_Term___eq__ an_Term___eq__ : Option Addr} {sl_Term___eq__ : Array (Option Value)} {oc_Term___eq__ kV_Term___eq__ dc_Term___eq__ pm_Term___eq__ cd_Term___eq__ ct_Term___eq__ : Value}
    {f_Term_within : Addr} {od_Term_within an_Term_within : Option Addr} {sl_Term_within : Array (Option Value)} {oc_Term_within kV_Term_within dc_Term_within pm_Term_within cd_Term_within ct_Term_within : Value}
    {t_MOST_WAITS : Tok}
    {t_MOST_DEEDS : Tok}
    {t_RESERVED : Tok}
    {t_AT_ONCE : Tok}
    {t_AT_THE_END : Tok}
    {f_deed_parts : Addr} {od_deed_parts an_deed_parts : Option Addr} {sl_deed_parts : Array (Option Value)} {oc_deed_parts kV_deed_parts dc_deed_parts pm_deed_parts cd_deed_parts ct_deed_parts : Value}
    {C_Deed : Addr}
    {f_Deed___init__ : Addr} {od_Deed___init__ an_Deed___init__ : Option Addr} {sl_Deed___init__ : Array (Option Value)} {oc_Deed___init__  dc_Deed___init__ pm_Deed___init__ cd_Deed___init__ ct_Deed___init__ : Value} {kD_Deed___init__ : Addr}
    {f_Deed_of : Addr} {od_Deed_of an_Deed_of : Option Addr} {sl_Deed_of : Array (Option Value)} {oc_Deed_of kV_Deed_of dc_Deed_of pm_Deed_of cd_Deed_of ct_Deed_of : Value}
    {p_Deed_of : Addr} {re_Deed_of : List Value}
    {f_Deed_variable : Addr} {od_Deed_variable an_Deed_variable : Option Addr} {sl_Deed_variable : Array (Option Value)} {oc_Deed_variable kV_Deed_variable dc_Deed_variable pm_Deed_variable cd_Deed_variable ct_Deed_variable : Value}
    {p_Deed_variable : Addr} {re_Deed_variable : List Value}
    {f_Deed_term : Addr} {od_Deed_term an_Deed_term : Option Addr} {sl_Deed_term : Array (Option Value)} {oc_Deed_term kV_Deed_term dc_Deed_term pm_Deed_term cd_Deed_term ct_Deed_term : Value}
    {p_Deed_term : Addr} {re_Deed_term : List Value}
    {f_Deed_late : Addr} {od_Deed_late an_Deed_late : Option Addr} {sl_Deed_late : Array (Option Value)} {oc_Deed_late kV_Deed_late dc_Deed_late pm_Deed_late cd_Deed_late ct_Deed_late : Value}
    {p_Deed_late : Addr} {re_Deed_late : List Value}
    {f_Deed___str__ : Addr} {od_Deed___str__ an_Deed___str__ : Option Addr} {sl_Deed___str__ : Array (Option Value)} {oc_Deed___str__ kV_Deed___str__ dc_Deed___str__ pm_Deed___str__ cd_Deed___str__ ct_Deed___str__ : Value}
    {f_Deed___eq__ : Addr} {od_Deed___eq__ an_Deed___eq__ : Option Addr} {sl_Deed___eq__ : Array (Option Value)} {oc_Deed___eq__ kV_Deed___eq__ dc_Deed___eq__ pm_Deed___eq__ cd_Deed___eq__ ct_Deed___eq__ : Value}
    {f_deeds_of : Addr} {od_deeds_of an_deeds_of : Option Addr} {sl_deeds_of : Array (Option Value)} {oc_deeds_of kV_deeds_of dc_deeds_of pm_deeds_of cd_deeds_of ct_deeds_of : Value}
    {C_Process : Addr}
    {f_Process___init__ : Addr} {od_Process___init__ an_Process___init__ : Option Addr} {sl_Process___init__ : Array (Option Value)} {oc_Process___init__ kV_Process___init__ dc_Process___init__ pm_Process___init__ cd_Process___init__ ct_Process___init__ : Value}
    {f_Process_name : Addr} {od_Process_name an_Process_name : Option Addr} {sl_Process_name : Array (Option Value)} {oc_Process_name kV_Process_name dc_Process_name pm_Process_name cd_Process_name ct_Process_name : Value}
    {p_Process_name : Addr} {re_Process_name : List Value}
    {f_Process_reads : Addr} {od_Process_reads an_Process_reads : Option Addr} {sl_Process_reads : Array (Option Value)} {oc_Process_reads kV_Process_reads dc_Process_reads pm_Process_reads cd_Process_reads ct_Process_reads : Value}
    {f_Process_writes : Addr} {od_Process_writes an_Process_writes : Option Addr} {sl_Process_writes : Array (Option Value)} {oc_Process_writes kV_Process_writes dc_Process_writes pm_Process_writes cd_Process_writes ct_Process_writes : Value}
    {f_Process_written : Addr} {od_Process_written an_Process_written : Option Addr} {sl_Process_written : Array (Option Value)} {oc_Process_written kV_Process_written dc_Process_written pm_Process_written cd_Process_written ct_Process_written : Value}
    {f_Process_constants : Addr} {od_Process_constants an_Process_constants : Option Addr} {sl_Process_constants : Array (Option Value)} {oc_Process_constants kV_Process_constants dc_Process_constants pm_Process_constants cd_Process_constants ct_Process_constants : Value}
    {f_Process_variables : Addr} {od_Process_variables an_Process_variables : Option Addr} {sl_Process_variables : Array (Option Value)} {oc_Process_variables kV_Process_variables dc_Process_variables pm_Process_variables cd_Process_variables ct_Process_variables : Value}
    {f_Process_at_once : Addr} {od_Process_at_once an_Process_at_once : Option Addr} {sl_Process_at_once : Array (Option Value)} {oc_Process_at_once kV_Process_at_once dc_Process_at_once pm_Process_at_once cd_Process_at_once ct_Process_at_once : Value}
    {t_MOST_PROCESSES : Tok}
    {t_MOST_INPUTS : Tok}
    {t_MOST_VARIABLES : Tok}
    {t_MOST_CONSTANTS : Tok}
    {t_MOST_AT_ONCE : Tok}
    {f_are_processes : Addr} {od_are_processes an_are_processes : Option Addr} {sl_are_processes : Array (Option Value)} {oc_are_processes kV_are_processes dc_are_processes pm_are_processes cd_are_processes ct_are_processes : Value}
    {f_are_inputs : Addr} {od_are_inputs an_are_inputs : Option Addr} {sl_are_inputs : Array (Option Value)} {oc_are_inputs kV_are_inputs dc_are_inputs pm_are_inputs cd_are_inputs ct_are_inputs : Value}
    {f_all_variables : Addr} {od_all_variables an_all_variables : Option Addr} {sl_all_variables : Array (Option Value)} {oc_all_variables kV_all_variables dc_all_variables pm_all_variables cd_all_variables ct_all_variables : Value}
    {f_all_constants : Addr} {od_all_constants an_all_constants : Option Addr} {sl_all_constants : Array (Option Value)} {oc_all_constants kV_all_constants dc_all_constants pm_all_constants cd_all_constants ct_all_constants : Value}
    {f_first_wrong : Addr} {od_first_wrong an_first_wrong : Option Addr} {sl_first_wrong : Array (Option Value)} {oc_first_wrong kV_first_wrong dc_first_wrong pm_first_wrong cd_first_wrong ct_first_wrong : Value}
    {C_Program : Addr}
    {f_Program___init__ : Addr} {od_Program___init__ an_Program___init__ : Option Addr} {sl_Program___init__ : Array (Option Value)} {oc_Program___init__ kV_Program___init__ dc_Program___init__ pm_Program___init__ cd_Program___init__ ct_Program___init__ : Value}
    {f_Program_names : Addr} {od_Program_names an_Program_names : Option Addr} {sl_Program_names : Array (Option Value)} {oc_Program_names kV_Program_names dc_Program_names pm_Program_names cd_Program_names ct_Program_names : Value}
    {f_Program_place_of : Addr} {od_Program_place_of an_Program_place_of : Option Addr} {sl_Program_place_of : Array (Option Value)} {oc_Program_place_of kV_Program_place_of dc_Program_place_of pm_Program_place_of cd_Program_place_of ct_Program_place_of : Value}
    {f_Program___len__ : Addr} {od_Program___len__ an_Program___len__ : Option Addr} {sl_Program___len__ : Array (Option Value)} {oc_Program___len__ kV_Program___len__ dc_Program___len__ pm_Program___len__ cd_Program___len__ ct_Program___len__ : Value}
    {f_waiters : Addr} {od_waiters an_waiters : Option Addr} {sl_waiters : Array (Option Value)} {oc_waiters kV_waiters dc_waiters pm_waiters cd_waiters ct_waiters : Value}
    {f_woken_at_once : Addr} {od_woken_at_once an_woken_at_once : Option Addr} {sl_woken_at_once : Array (Option Value)} {oc_woken_at_once kV_woken_at_once dc_woken_at_once pm_woken_at_once cd_woken_at_once ct_woken_at_once : Value}
    {f_woken_late : Addr} {od_woken_late an_woken_late : Option Addr} {sl_woken_late : Array (Option Value)} {oc_woken_late kV_woken_late dc_woken_late pm_woken_late cd_woken_late ct_woken_late : Value}
    {f_woken_by : Addr} {od_woken_by an_woken_by : Option Addr} {sl_woken_by : Array (Option Value)} {oc_woken_by kV_woken_by dc_woken_by pm_woken_by cd_woken_by ct_woken_by : Value}
    {f_wakes : Addr} {od_wakes an_wakes : Option Addr} {sl_wakes : Array (Option Value)} {oc_wakes kV_wakes dc_wakes pm_wakes cd_wakes ct_wakes : Value}
    {f_wakings : Addr} {od_wakings an_wakings : Option Addr} {sl_wakings : Array (Option Value)} {oc_wakings kV_wakings dc_wakings pm_wakings cd_wakings ct_wakings : Value}
    {f__law_pool : Addr} {od__law_pool an__law_pool : Option Addr} {sl__law_pool : Array (Option Value)} {oc__law_pool kV__law_pool dc__law_pool pm__law_pool cd__law_pool ct__law_pool : Value}
    {f__law_take : Addr} {od__law_take an__law_take : Option Addr} {sl__law_take : Array (Option Value)} {oc__law_take kV__law_take dc__law_take pm__law_take cd__law_take ct__law_take : Value}
    {f__law_one : Addr} {od__law_one an__law_one : Option Addr} {sl__law_one : Array (Option Value)} {oc__law_one kV__law_one dc__law_one pm__law_one cd__law_one ct__law_one : Value}
    {f__law_turned : Addr} {od__law_turned an__law_turned : Option Addr} {sl__law_turned : Array (Option Value)} {oc__law_turned kV__law_turned dc__law_turned pm__law_turned cd__law_turned ct__law_turned : Value}
    {f__law_words : Addr} {od__law_words an__law_words : Option Addr} {sl__law_words : Array (Option Value)} {oc__law_words kV__law_words dc__law_words pm__law_words cd__law_words ct__law_words : Value}
    {f__law_tree : Addr} {od__law_tree an__law_tree : Option Addr} {sl__law_tree : Array (Option Value)} {oc__law_tree kV__law_tree dc__law_tree pm__law_tree cd__law_tree ct__law_tree : Value}
    {f__law_tree_text : Addr} {od__law_tree_text an__law_tree_text : Option Addr} {sl__law_tree_text : Array (Option Value)} {oc__law_tree_text kV__law_tree_text dc__law_tree_text pm__law_tree_text cd__law_tree_text ct__law_tree_text : Value}
    {f__law_deed_text : Addr} {od__law_deed_text an__law_deed_text : Option Addr} {sl__law_deed_text : Array (Option Value)} {oc__law_deed_text kV__law_deed_text dc__law_deed_text pm__law_deed_text cd__law_deed_text ct__law_deed_text : Value}
    {f__law_deeds_drawn : Addr} {od__law_deeds_drawn an__law_deeds_drawn : Option Addr} {sl__law_deeds_drawn : Array (Option Value)} {oc__law_deeds_drawn kV__law_deeds_drawn dc__law_deeds_drawn pm__law_deeds_drawn cd__law_deeds_drawn ct__law_deeds_drawn : Value}
    {f__law_plain : Addr} {od__law_plain an__law_plain : Option Addr} {sl__law_plain : Array (Option Value)} {oc__law_plain kV__law_plain dc__law_plain pm__law_plain cd__law_plain ct__law_plain : Value}
    {f__law_less_at_once : Addr} {od__law_less_at_once an__law_less_at_once : Option Addr} {sl__law_less_at_once : Array (Option Value)} {oc__law_less_at_once kV__law_less_at_once dc__law_less_at_once pm__law_less_at_once cd__law_less_at_once ct__law_less_at_once : Value}
    {f__law_made_process : Addr} {od__law_made_process an__law_made_process : Option Addr} {sl__law_made_process : Array (Option Value)} {oc__law_made_process kV__law_made_process dc__law_made_process pm__law_made_process cd__law_made_process ct__law_made_process : Value}
    {f__law_made : Addr} {od__law_made an__law_made : Option Addr} {sl__law_made : Array (Option Value)} {oc__law_made kV__law_made dc__law_made pm__law_made cd__law_made ct__law_made : Value}
    {f__law_may_wake : Addr} {od__law_may_wake an__law_may_wake : Option Addr} {sl__law_may_wake : Array (Option Value)} {oc__law_may_wake kV__law_may_wake dc__law_may_wake pm__law_may_wake cd__law_may_wake ct__law_may_wake : Value}
    {f__law_refused : Addr} {od__law_refused an__law_refused : Option Addr} {sl__law_refused : Array (Option Value)} {oc__law_refused kV__law_refused dc__law_refused pm__law_refused cd__law_refused ct__law_refused : Value}
    {f_law : Addr} {od_law an_law : Option Addr} {sl_law : Array (Option Value)} {oc_law kV_law dc_law pm_law cd_law ct_law : Value}
    (h_g_TiedError : PySem.W.nsIn K mainGlobals "TiedError" = some (some (.ref C_TiedError)))
    (h_g_NoTerm : PySem.W.nsIn K mainGlobals "NoTerm" = some (some (.ref C_NoTerm)))
    (h_l_NoTerm : K.lookup C_NoTerm = some (excClassObj nm_NoTerm q_NoTerm C_NoTerm N_NoTerm bs_NoTerm bm_NoTerm true sn_NoTerm su_NoTerm ab_NoTerm co_NoTerm dd_NoTerm k0_NoTerm k1_NoTerm k2_NoTerm k3_NoTerm k5_NoTerm "ValueError.__new__"))
    (h_r_NoTerm : PySem.HandSPX.refsVE bm_NoTerm = true)
    (h_s_NoTerm : PySem.W.findIn K (.ref C_NoTerm) "__setattr__" = some (some (.builtin "object.__setattr__")))
    (h_n_NoTerm : PySem.W.findIn K (.ref C_NoTerm) "value" = some none)
    (h_i_NoTerm : PySem.W.findIn K (.ref C_NoTerm) "__init__" = some (some (.ref i_NoTerm)))
    (h_t_NoTerm : PySem.W.typeIn K (.ref i_NoTerm) = some (.type "function"))
    (h_k_NoTerm : PySem.W.keepIn K (.ref C_NoTerm) = true)
    (h_x_NoTerm : PySem.W.subIn K (.ref C_NoTerm) (.type "BaseException") = some true)
    (h_v_NoTerm : PySem.W.subIn K (.ref C_NoTerm) (.type "ValueError") = some true)
    (h_y_NoTerm : PySem.W.typeIn K (.ref C_NoTerm) = some (.type "type"))
    (h_xf_NoTerm : xfB K C_NoTerm = true)
    (h_fn_NoTerm : K.lookup i_NoTerm = some ⟨oc_NoTerm, od_NoTerm, .func (PySem.W.fnX "__init__" "NoTerm.__init__" (xiA "value" p1_NoTerm p2_NoTerm) (xiB "value" m_NoTerm j_NoTerm q0_NoTerm q1_NoTerm q2_NoTerm q3_NoTerm q4_NoTerm q5_NoTerm r1_NoTerm r2_NoTerm r3_NoTerm r4_NoTerm) (xiS "value") [("__class__", cc_NoTerm)] .none kV_NoTerm dc_NoTerm pm_NoTerm an_NoTerm (.ref cda_NoTerm) ct_NoTerm), sl_NoTerm⟩)
    (h_cd_NoTerm : PySem.W.codeIn K (.ref cda_NoTerm) "NoTerm.__init__" = true)
    (h_lc_NoTerm : K.lookup cda_NoTerm = some ⟨ccl_NoTerm, cdd_NoTerm, .fields vs_NoTerm, ccs_NoTerm⟩)
    (h_v2_NoTerm : vs_NoTerm[2]? = some (.str file_NoTerm tf_NoTerm))
    (h_fi_NoTerm : ((P.main.file : Str) == file_NoTerm) = true)
    (h_ln_NoTerm : (q2_NoTerm.endLine == q4_NoTerm.line) = true)
    (h_ce_NoTerm : K.lookup cc_NoTerm = some ⟨cl_NoTerm, cld_NoTerm, .cell (some (.ref C_NoTerm)), csl_NoTerm⟩)
    (h_se_NoTerm : PySem.W.mroIn K C_NoTerm (.ref C_NoTerm) = some true)
    (h_up_NoTerm : PySem.W.ks_superIn K C_NoTerm C_NoTerm "__init__" = some (some (.builtin "ValueError.__init__")))
    (h_te_NoTerm : PySem.W.exmOne K (.ref C_NoTerm) (.ref C_NoTerm) = some true)
    (h_kb_NoTerm_TiedError : PySem.W.kitOne K (.ref C_NoTerm) (.ref C_TiedError) = some true)
    (h_g_NoDeed : PySem.W.nsIn K mainGlobals "NoDeed" = some (some (.ref C_NoDeed)))
    (h_l_NoDeed : K.lookup C_NoDeed = some (excClassObj nm_NoDeed q_NoDeed C_NoDeed N_NoDeed bs_NoDeed bm_NoDeed true sn_NoDeed su_NoDeed ab_NoDeed co_NoDeed dd_NoDeed k0_NoDeed k1_NoDeed k2_NoDeed k3_NoDeed k5_NoDeed "ValueError.__new__"))
    (h_r_NoDeed : PySem.HandSPX.refsVE bm_NoDeed = true)
    (h_s_NoDeed : PySem.W.findIn K (.ref C_NoDeed) "__setattr__" = some (some (.builtin "object.__setattr__")))
    (h_n_NoDeed : PySem.W.findIn K (.ref C_NoDeed) "value" = some none)
    (h_i_NoDeed : PySem.W.findIn K (.ref C_NoDeed) "__init__" = some (some (.ref i_NoDeed)))
    (h_t_NoDeed : PySem.W.typeIn K (.ref i_NoDeed) = some (.type "function"))
    (h_k_NoDeed : PySem.W.keepIn K (.ref C_NoDeed) = true)
    (h_x_NoDeed : PySem.W.subIn K (.ref C_NoDeed) (.type "BaseException") = some true)
    (h_v_NoDeed : PySem.W.subIn K (.ref C_NoDeed) (.type "ValueError") = some true)
    (h_y_NoDeed : PySem.W.typeIn K (.ref C_NoDeed) = some (.type "type"))
    (h_xf_NoDeed : xfB K C_NoDeed = true)
    (h_fn_NoDeed : K.lookup i_NoDeed = some ⟨oc_NoDeed, od_NoDeed, .func (PySem.W.fnX "__init__" "NoDeed.__init__" (xiA "value" p1_NoDeed p2_NoDeed) (xiB "value" m_NoDeed j_NoDeed q0_NoDeed q1_NoDeed q2_NoDeed q3_NoDeed q4_NoDeed q5_NoDeed r1_NoDeed r2_NoDeed r3_NoDeed r4_NoDeed) (xiS "value") [("__class__", cc_NoDeed)] .none kV_NoDeed dc_NoDeed pm_NoDeed an_NoDeed (.ref cda_NoDeed) ct_NoDeed), sl_NoDeed⟩)
    (h_cd_NoDeed : PySem.W.codeIn K (.ref cda_NoDeed) "NoDeed.__init__" = true)
    (h_lc_NoDeed : K.lookup cda_NoDeed = some ⟨ccl_NoDeed, cdd_NoDeed, .fields vs_NoDeed, ccs_NoDeed⟩)
    (h_v2_NoDeed : vs_NoDeed[2]? = some (.str file_NoDeed tf_NoDeed))
    (h_fi_NoDeed : ((P.main.file : Str) == file_NoDeed) = true)
    (h_ln_NoDeed : (q2_NoDeed.endLine == q4_NoDeed.line) = true)
    (h_ce_NoDeed : K.lookup cc_NoDeed = some ⟨cl_NoDeed, cld_NoDeed, .cell (some (.ref C_NoDeed)), csl_NoDeed⟩)
    (h_se_NoDeed : PySem.W.mroIn K C_NoDeed (.ref C_NoDeed) = some true)
    (h_up_NoDeed : PySem.W.ks_superIn K C_NoDeed C_NoDeed "__init__" = some (some (.builtin "ValueError.__init__")))
    (h_te_NoDeed : PySem.W.exmOne K (.ref C_NoDeed) (.ref C_NoDeed) = some true)
    (h_kb_NoDeed_TiedError : PySem.W.kitOne K (.ref C_NoDeed) (.ref C_TiedError) = some true)
    (h_g_NoProcess : PySem.W.nsIn K mainGlobals "NoProcess" = some (some (.ref C_NoProcess)))
    (h_l_NoProcess : K.lookup C_NoProcess = some (excClassObj nm_NoProcess q_NoProcess C_NoProcess N_NoProcess bs_NoProcess bm_NoProcess true sn_NoProcess su_NoProcess ab_NoProcess co_NoProcess dd_NoProcess k0_NoProcess k1_NoProcess k2_NoProcess k3_NoProcess k5_NoProcess "ValueError.__new__"))
    (h_r_NoProcess : PySem.HandSPX.refsVE bm_NoProcess = true)
    (h_s_NoProcess : PySem.W.findIn K (.ref C_NoProcess) "__setattr__" = some (some (.builtin "object.__setattr__")))
    (h_n_NoProcess : PySem.W.findIn K (.ref C_NoProcess) "part" = some none)
    (h_i_NoProcess : PySem.W.findIn K (.ref C_NoProcess) "__init__" = some (some (.ref i_NoProcess)))
    (h_t_NoProcess : PySem.W.typeIn K (.ref i_NoProcess) = some (.type "function"))
    (h_k_NoProcess : PySem.W.keepIn K (.ref C_NoProcess) = true)
    (h_x_NoProcess : PySem.W.subIn K (.ref C_NoProcess) (.type "BaseException") = some true)
    (h_v_NoProcess : PySem.W.subIn K (.ref C_NoProcess) (.type "ValueError") = some true)
    (h_y_NoProcess : PySem.W.typeIn K (.ref C_NoProcess) = some (.type "type"))
    (h_xf_NoProcess : xfB K C_NoProcess = true)
    (h_fn_NoProcess : K.lookup i_NoProcess = some ⟨oc_NoProcess, od_NoProcess, .func (PySem.W.fnX "__init__" "NoProcess.__init__" (xiA "part" p1_NoProcess p2_NoProcess) (xiB "part" m_NoProcess j_NoProcess q0_NoProcess q1_NoProcess q2_NoProcess q3_NoProcess q4_NoProcess q5_NoProcess r1_NoProcess r2_NoProcess r3_NoProcess r4_NoProcess) (xiS "part") [("__class__", cc_NoProcess)] .none kV_NoProcess dc_NoProcess pm_NoProcess an_NoProcess (.ref cda_NoProcess) ct_NoProcess), sl_NoProcess⟩)
    (h_cd_NoProcess : PySem.W.codeIn K (.ref cda_NoProcess) "NoProcess.__init__" = true)
    (h_lc_NoProcess : K.lookup cda_NoProcess = some ⟨ccl_NoProcess, cdd_NoProcess, .fields vs_NoProcess, ccs_NoProcess⟩)
    (h_v2_NoProcess : vs_NoProcess[2]? = some (.str file_NoProcess tf_NoProcess))
    (h_fi_NoProcess : ((P.main.file : Str) == file_NoProcess) = true)
    (h_ln_NoProcess : (q2_NoProcess.endLine == q4_NoProcess.line) = true)
    (h_ce_NoProcess : K.lookup cc_NoProcess = some ⟨cl_NoProcess, cld_NoProcess, .cell (some (.ref C_NoProcess)), csl_NoProcess⟩)
    (h_se_NoProcess : PySem.W.mroIn K C_NoProcess (.ref C_NoProcess) = some true)
    (h_up_NoProcess : PySem.W.ks_superIn K C_NoProcess C_NoProcess "__init__" = some (some (.builtin "ValueError.__init__")))
    (h_te_NoProcess : PySem.W.exmOne K (.ref C_NoProcess) (.ref C_NoProcess) = some true)
    (h_kb_NoProcess_TiedError : PySem.W.kitOne K (.ref C_NoProcess) (.ref C_TiedError) = some true)
    (h_g_NoProgram : PySem.W.nsIn K mainGlobals "NoProgram" = some (some (.ref C_NoProgram)))
    (h_l_NoProgram : K.lookup C_NoProgram = some (excClassObj nm_NoProgram q_NoProgram C_NoProgram N_NoProgram bs_NoProgram bm_NoProgram true sn_NoProgram su_NoProgram ab_NoProgram co_NoProgram dd_NoProgram k0_NoProgram k1_NoProgram k2_NoProgram k3_NoProgram k5_NoProgram "ValueError.__new__"))
    (h_r_NoProgram : PySem.HandSPX.refsVE bm_NoProgram = true)
    (h_s_NoProgram : PySem.W.findIn K (.ref C_NoProgram) "__setattr__" = some (some (.builtin "object.__setattr__")))
    (h_n_NoProgram : PySem.W.findIn K (.ref C_NoProgram) "part" = some none)
    (h_i_NoProgram : PySem.W.findIn K (.ref C_NoProgram) "__init__" = some (some (.ref i_NoProgram)))
    (h_t_NoProgram : PySem.W.typeIn K (.ref i_NoProgram) = some (.type "function"))
    (h_k_NoProgram : PySem.W.keepIn K (.ref C_NoProgram) = true)
    (h_x_NoProgram : PySem.W.subIn K (.ref C_NoProgram) (.type "BaseException") = some true)
    (h_v_NoProgram : PySem.W.subIn K (.ref C_NoProgram) (.type "ValueError") = some true)
    (h_y_NoProgram : PySem.W.typeIn K (.ref C_NoProgram) = some (.type "type"))
    (h_xf_NoProgram : xfB K C_NoProgram = true)
    (h_fn_NoProgram : K.lookup i_NoProgram = some ⟨oc_NoProgram, od_NoProgram, .func (PySem.W.fnX "__init__" "NoProgram.__init__" (xiA "part" p1_NoProgram p2_NoProgram) (xiB "part" m_NoProgram j_NoProgram q0_NoProgram q1_NoProgram q2_NoProgram q3_NoProgram q4_NoProgram q5_NoProgram r1_NoProgram r2_NoProgram r3_NoProgram r4_NoProgram) (xiS "part") [("__class__", cc_NoProgram)] .none kV_NoProgram dc_NoProgram pm_NoProgram an_NoProgram (.ref cda_NoProgram) ct_NoProgram), sl_NoProgram⟩)
    (h_cd_NoProgram : PySem.W.codeIn K (.ref cda_NoProgram) "NoProgram.__init__" = true)
    (h_lc_NoProgram : K.lookup cda_NoProgram = some ⟨ccl_NoProgram, cdd_NoProgram, .fields vs_NoProgram, ccs_NoProgram⟩)
    (h_v2_NoProgram : vs_NoProgram[2]? = some (.str file_NoProgram tf_NoProgram))
    (h_fi_NoProgram : ((P.main.file : Str) == file_NoProgram) = true)
    (h_ln_NoProgram : (q2_NoProgram.endLine == q4_NoProgram.line) = true)
    (h_ce_NoProgram : K.lookup cc_NoProgram = some ⟨cl_NoProgram, cld_NoProgram, .cell (some (.ref C_NoProgram)), csl_NoProgram⟩)
    (h_se_NoProgram : PySem.W.mroIn K C_NoProgram (.ref C_NoProgram) = some true)
    (h_up_NoProgram : PySem.W.ks_superIn K C_NoProgram C_NoProgram "__init__" = some (some (.builtin "ValueError.__init__")))
    (h_te_NoProgram : PySem.W.exmOne K (.ref C_NoProgram) (.ref C_NoProgram) = some true)
    (h_kb_NoProgram_TiedError : PySem.W.kitOne K (.ref C_NoProgram) (.ref C_TiedError) = some true)
    (h_g_NoName : PySem.W.nsIn K mainGlobals "NoName" = some (some (.ref C_NoName)))
    (h_l_NoName : K.lookup C_NoName = some (excClassObj nm_NoName q_NoName C_NoName N_NoName bs_NoName [.type "KeyError", .type "LookupError", .type "Exception", .type "BaseException", .type "object"] true sn_NoName su_NoName ab_NoName co_NoName dd_NoName k0_NoName k1_NoName k2_NoName k3_NoName k5_NoName "LookupError.__new__"))
    (h_s_NoName : PySem.W.findIn K (.ref C_NoName) "__setattr__" = some (some (.builtin "object.__setattr__")))
    (h_n_NoName : PySem.W.findIn K (.ref C_NoName) "who" = some none)
    (h_i_NoName : PySem.W.findIn K (.ref C_NoName) "__init__" = some (some (.ref i_NoName)))
    (h_t_NoName : PySem.W.typeIn K (.ref i_NoName) = some (.type "function"))
    (h_k_NoName : PySem.W.keepIn K (.ref C_NoName) = true)
    (h_x_NoName : PySem.W.subIn K (.ref C_NoName) (.type "BaseException") = some true)
    (h_v_NoName : PySem.W.subIn K (.ref C_NoName) (.type "KeyError") = some true)
    (h_y_NoName : PySem.W.typeIn K (.ref C_NoName) = some (.type "type"))
    (h_xf_NoName : xfB K C_NoName = true)
    (h_fn_NoName : K.lookup i_NoName = some ⟨oc_NoName, od_NoName, .func (PySem.W.fnX "__init__" "NoName.__init__" (xiA "who" p1_NoName p2_NoName) (xiB "who" m_NoName j_NoName q0_NoName q1_NoName q2_NoName q3_NoName q4_NoName q5_NoName r1_NoName r2_NoName r3_NoName r4_NoName) (xiS "who") [("__class__", cc_NoName)] .none kV_NoName dc_NoName pm_NoName an_NoName (.ref cda_NoName) ct_NoName), sl_NoName⟩)
    (h_cd_NoName : PySem.W.codeIn K (.ref cda_NoName) "NoName.__init__" = true)
    (h_lc_NoName : K.lookup cda_NoName = some ⟨ccl_NoName, cdd_NoName, .fields vs_NoName, ccs_NoName⟩)
    (h_v2_NoName : vs_NoName[2]? = some (.str file_NoName tf_NoName))
    (h_fi_NoName : ((P.main.file : Str) == file_NoName) = true)
    (h_ln_NoName : (q2_NoName.endLine == q4_NoName.line) = true)
    (h_ce_NoName : K.lookup cc_NoName = some ⟨cl_NoName, cld_NoName, .cell (some (.ref C_NoName)), csl_NoName⟩)
    (h_se_NoName : PySem.W.mroIn K C_NoName (.ref C_NoName) = some true)
    (h_up_NoName : PySem.W.ks_superIn K C_NoName C_NoName "__init__" = some (some (.builtin "KeyError.__init__")))
    (h_te_NoName : PySem.W.exmOne K (.ref C_NoName) (.ref C_NoName) = some true)
    (h_kr_NoName : PySem.W.kitOne K (.ref C_NoName) (.type "KeyError") = some true)
    (h_b_KeyError : PySem.W.nsIn K mainGlobals "KeyError" = some none)
    (h_v_LETTERS : PySem.W.nsIn K mainGlobals "LETTERS" = some (some (.str "abcdefghijklmnopqrstuvwxyz" t_LETTERS)))
    (h_v_DIGITS : PySem.W.nsIn K mainGlobals "DIGITS" = some (some (.str "0123456789" t_DIGITS)))
    (h_v_MOST_LETTERS : PySem.W.nsIn K mainGlobals "MOST_LETTERS" = some (some (.int 8 t_MOST_LETTERS)))
    (h_a_is_whole : PySem.W.nsIn K mainGlobals "is_whole" = some (some (.ref f_is_whole)))
    (h_l_is_whole : K.lookup f_is_whole = some ⟨oc_is_whole, od_is_whole, .func (PySem.W.fnOf "is_whole" "is_whole" (defArgs s_is_whole) (defBody s_is_whole) (defScope s_is_whole) .none kV_is_whole dc_is_whole pm_is_whole an_is_whole cd_is_whole ct_is_whole), sl_is_whole⟩)
    (h_c_is_whole : PySem.W.codeIn K cd_is_whole "is_whole" = true)
    (h_k_is_whole : PySem.W.keepIn K (.ref f_is_whole) = true)
    (h_a_is_number : PySem.W.nsIn K mainGlobals "is_number" = some (some (.ref f_is_number)))
    (h_l_is_number : K.lookup f_is_number = some ⟨oc_is_number, od_is_number, .func (PySem.W.fnOf "is_number" "is_number" (defArgs s_is_number) (defBody s_is_number) (defScope s_is_number) .none kV_is_number dc_is_number pm_is_number an_is_number cd_is_number ct_is_number), sl_is_number⟩)
    (h_c_is_number : PySem.W.codeIn K cd_is_number "is_number" = true)
    (h_k_is_number : PySem.W.keepIn K (.ref f_is_number) = true)
    (h_a_is_word : PySem.W.nsIn K mainGlobals "is_word" = some (some (.ref f_is_word)))
    (h_l_is_word : K.lookup f_is_word = some ⟨oc_is_word, od_is_word, .func (PySem.W.fnOf "is_word" "is_word" (defArgs s_is_word) (defBody s_is_word) (defScope s_is_word) .none kV_is_word dc_is_word pm_is_word an_is_word cd_is_word ct_is_word), sl_is_word⟩)
    (h_c_is_word : PySem.W.codeIn K cd_is_word "is_word" = true)
    (h_k_is_word : PySem.W.keepIn K (.ref f_is_word) = true)
    (h_a_is_digit : PySem.W.nsIn K mainGlobals "is_digit" = some (some (.ref f_is_digit)))
    (h_l_is_digit : K.lookup f_is_digit = some ⟨oc_is_digit, od_is_digit, .func (PySem.W.fnOf "is_digit" "is_digit" (defArgs s_is_digit) (defBody s_is_digit) (defScope s_is_digit) .none kV_is_digit dc_is_digit pm_is_digit an_is_digit cd_is_digit ct_is_digit), sl_is_digit⟩)
    (h_c_is_digit : PySem.W.codeIn K cd_is_digit "is_digit" = true)
    (h_k_is_digit : PySem.W.keepIn K (.ref f_is_digit) = true)
    (h_a_are_unlike_words : PySem.W.nsIn K mainGlobals "are_unlike_words" = some (some (.ref f_are_unlike_words)))
    (h_l_are_unlike_words : K.lookup f_are_unlike_words = some ⟨oc_are_unlike_words, od_are_unlike_words, .func (PySem.W.fnOf "are_unlike_words" "are_unlike_words" (defArgs s_are_unlike_words) (defBody s_are_unlike_words) (defScope s_are_unlike_words) .none kV_are_unlike_words dc_are_unlike_words pm_are_unlike_words an_are_unlike_words cd_are_unlike_words ct_are_unlike_words), sl_are_unlike_words⟩)
    (h_c_are_unlike_words : PySem.W.codeIn K cd_are_unlike_words "are_unlike_words" = true)
    (h_k_are_unlike_words : PySem.W.keepIn K (.ref f_are_unlike_words) = true)
    (h_a_ascending_words : PySem.W.nsIn K mainGlobals "ascending_words" = some (some (.ref f_ascending_words)))
    (h_l_ascending_words : K.lookup f_ascending_words = some ⟨oc_ascending_words, od_ascending_words, .func (PySem.W.fnOf "ascending_words" "ascending_words" (defArgs s_ascending_words) (defBody s_ascending_words) (defScope s_ascending_words) .none kV_ascending_words dc_ascending_words pm_ascending_words an_ascending_words cd_ascending_words ct_ascending_words), sl_ascending_words⟩)
    (h_c_ascending_words : PySem.W.codeIn K cd_ascending_words "ascending_words" = true)
    (h_k_ascending_words : PySem.W.keepIn K (.ref f_ascending_words) = true)
    (h_a_ascending_numbers : PySem.W.nsIn K mainGlobals "ascending_numbers" = some (some (.ref f_ascending_numbers)))
    (h_l_ascending_numbers : K.lookup f_ascending_numbers = some ⟨oc_ascending_numbers, od_ascending_numbers, .func (PySem.W.fnOf "ascending_numbers" "ascending_numbers" (defArgs s_ascending_numbers) (defBody s_ascending_numbers) (defScope s_ascending_numbers) .none kV_ascending_numbers dc_ascending_numbers pm_ascending_numbers an_ascending_numbers cd_ascending_numbers ct_ascending_numbers), sl_ascending_numbers⟩)
    (h_c_ascending_numbers : PySem.W.codeIn K cd_ascending_numbers "ascending_numbers" = true)
    (h_k_ascending_numbers : PySem.W.keepIn K (.ref f_ascending_numbers) = true)
    (h_v_MOST_DEPTH : PySem.W.nsIn K mainGlobals "MOST_DEPTH" = some (some (.int 3 t_MOST_DEPTH)))
    (h_v_MOST_CONSTANT : PySem.W.nsIn K mainGlobals "MOST_CONSTANT" = some (some (.int 9 t_MOST_CONSTANT)))
    (h_v_SIGNS : PySem.W.nsIn K mainGlobals "SIGNS" = some (some (.ref v_SIGNS)))
    (h_w_SIGNS : K.lookup v_SIGNS = some ⟨.type "tuple", dd_SIGNS, .seq #[.str "(" t0_SIGNS, .str "=" t1_SIGNS, .str "?" t2_SIGNS, .str ":" t3_SIGNS, .str ")" t4_SIGNS] n_SIGNS, sl_SIGNS⟩)
    (h_a_word_at : PySem.W.nsIn K mainGlobals "word_at" = some (some (.ref f_word_at)))
    (h_l_word_at : K.lookup f_word_at = some ⟨oc_word_at, od_word_at, .func (PySem.W.fnOf "word_at" "word_at" (defArgs s_word_at) (defBody s_word_at) (defScope s_word_at) .none kV_word_at dc_word_at pm_word_at an_word_at cd_word_at ct_word_at), sl_word_at⟩)
    (h_c_word_at : PySem.W.codeIn K cd_word_at "word_at" = true)
    (h_k_word_at : PySem.W.keepIn K (.ref f_word_at) = true)
    (h_a_plan_at : PySem.W.nsIn K mainGlobals "plan_at" = some (some (.ref f_plan_at)))
    (h_l_plan_at : K.lookup f_plan_at = some ⟨oc_plan_at, od_plan_at, .func (PySem.W.fnOf "plan_at" "plan_at" (defArgs s_plan_at) (defBody s_plan_at) (defScope s_plan_at) .none kV_plan_at dc_plan_at pm_plan_at an_plan_at cd_plan_at ct_plan_at), sl_plan_at⟩)
    (h_c_plan_at : PySem.W.codeIn K cd_plan_at "plan_at" = true)
    (h_k_plan_at : PySem.W.keepIn K (.ref f_plan_at) = true)
    (h_a_text_of : PySem.W.nsIn K mainGlobals "text_of" = some (some (.ref f_text_of)))
    (h_l_text_of : K.lookup f_text_of = some ⟨oc_text_of, od_text_of, .func (PySem.W.fnOf "text_of" "text_of" (defArgs s_text_of) (defBody s_text_of) (defScope s_text_of) .none kV_text_of dc_text_of pm_text_of an_text_of cd_text_of ct_text_of), sl_text_of⟩)
    (h_c_text_of : PySem.W.codeIn K cd_text_of "text_of" = true)
    (h_k_text_of : PySem.W.keepIn K (.ref f_text_of) = true)
    (h_a_leaves_of : PySem.W.nsIn K mainGlobals "leaves_of" = some (some (.ref f_leaves_of)))
    (h_l_leaves_of : K.lookup f_leaves_of = some ⟨oc_leaves_of, od_leaves_of, .func (PySem.W.fnOf "leaves_of" "leaves_of" (defArgs s_leaves_of) (defBody s_leaves_of) (defScope s_leaves_of) .none kV_leaves_of dc_leaves_of pm_leaves_of an_leaves_of cd_leaves_of ct_leaves_of), sl_leaves_of⟩)
    (h_c_leaves_of : PySem.W.codeIn K cd_leaves_of "leaves_of" = true)
    (h_k_leaves_of : PySem.W.keepIn K (.ref f_leaves_of) = true)
    (h_a_stands_in : PySem.W.nsIn K mainGlobals "stands_in" = some (some (.ref f_stands_in)))
    (h_l_stands_in : K.lookup f_stands_in = some ⟨oc_stands_in, od_stands_in, .func (PySem.W.fnOf "stands_in" "stands_in" (defArgs s_stands_in) (defBody s_stands_in) (defScope s_stands_in) .none kV_stands_in dc_stands_in pm_stands_in an_stands_in cd_stands_in ct_stands_in), sl_stands_in⟩)
    (h_c_stands_in : PySem.W.codeIn K cd_stands_in "stands_in" = true)
    (h_k_stands_in : PySem.W.keepIn K (.ref f_stands_in) = true)
    (h_a_plan_of : PySem.W.nsIn K mainGlobals "plan_of" = some (some (.ref f_plan_of)))
    (h_l_plan_of : K.lookup f_plan_of = some ⟨oc_plan_of, od_plan_of, .func (PySem.W.fnOf "plan_of" "plan_of" (defArgs s_plan_of) (defBody s_plan_of) (defScope s_plan_of) .none kV_plan_of dc_plan_of pm_plan_of an_plan_of cd_plan_of ct_plan_of), sl_plan_of⟩)
    (h_c_plan_of : PySem.W.codeIn K cd_plan_of "plan_of" = true)
    (h_k_plan_of : PySem.W.keepIn K (.ref f_plan_of) = true)
    (h_g_Term : PySem.W.nsIn K mainGlobals "Term" = some (some (.ref C_Term)))
    (h_pg_Term : PySem.W.plainGet K C_Term Str.empty = true)
    (h_hd_Term : PySem.W.hasDictIn K C_Term = true)
    (h_po_Term : PySem.W.plainOver K C_Term = true)
    (h_sa_Term : PySem.W.findIn K (.ref C_Term) "__setattr__" = some (some (.builtin "object.__setattr__")))
    (h_kp_Term : PySem.W.keepIn K (.ref C_Term) = true)
    (h_ty_Term : PySem.W.findIn K (.ref C_Term) "__class__" = some (some (.builtin "object.__class__")))
    (h_mo_Term : PySem.W.mroIn K C_Term (.type "object") = some true)
    (h_kit_Term_NoneType : PySem.W.kitOne K (.type "NoneType") (.ref C_Term) = some false)
    (h_kit_Term_bool : PySem.W.kitOne K (.type "bool") (.ref C_Term) = some false)
    (h_kit_Term_int : PySem.W.kitOne K (.type "int") (.ref C_Term) = some false)
    (h_kit_Term_str : PySem.W.kitOne K (.type "str") (.ref C_Term) = some false)
    (h_kit_Term_list : PySem.W.kitOne K (.type "list") (.ref C_Term) = some false)
    (h_kit_Term_tuple : PySem.W.kitOne K (.type "tuple") (.ref C_Term) = some false)
    (h_kit_Term_dict : PySem.W.kitOne K (.type "dict") (.ref C_Term) = some false)
    (h_kik_Term_list : PySem.W.kitOne K (.ref C_Term) (.type "list") = some false)
    (h_kik_Term_tuple : PySem.W.kitOne K (.ref C_Term) (.type "tuple") = some false)
    (h_kik_Term_str : PySem.W.kitOne K (.ref C_Term) (.type "str") = some false)
    (h_kit_Term : PySem.W.kitOne K (.ref C_Term) (.ref C_Term) = some true)
    (h_l_Term___init__ : K.lookup f_Term___init__ = some ⟨oc_Term___init__, od_Term___init__, .func (PySem.W.fnOf "__init__" "Term.__init__" (defArgs s_Term___init__) (defBody s_Term___init__) (defScope s_Term___init__) .none kV_Term___init__ dc_Term___init__ pm_Term___init__ an_Term___init__ cd_Term___init__ ct_Term___init__), sl_Term___init__⟩)
    (h_c_Term___init__ : PySem.W.codeIn K cd_Term___init__ "Term.__init__" = true)
    (h_k_Term___init__ : PySem.W.keepIn K (.ref f_Term___init__) = true)
    (h_a_Term___init__ : PySem.W.findIn K (.ref C_Term) "__init__" = some (some (.ref f_Term___init__)))
    (h_i_Term___init__ : PySem.W.isFn K (.ref f_Term___init__) = true)
    (h_mk_Term : PySem.W.makesIn K C_Term = true)
    (h_l_Term_choice : K.lookup f_Term_choice = some ⟨oc_Term_choice, od_Term_choice, .func (PySem.W.fnOf "choice" "Term.choice" (defArgs s_Term_choice) (defBody s_Term_choice) (defScope s_Term_choice) .none kV_Term_choice dc_Term_choice pm_Term_choice an_Term_choice cd_Term_choice ct_Term_choice), sl_Term_choice⟩)
    (h_c_Term_choice : PySem.W.codeIn K cd_Term_choice "Term.choice" = true)
    (h_k_Term_choice : PySem.W.keepIn K (.ref f_Term_choice) = true)
    (h_r1_Term_choice : PySem.W.readsIn K C_Term (.type "type") = true)
    (h_r2_Term_choice : PySem.W.specialIn K (.ref C_Term) "__getattribute__" = some (some (.builtin "type.__getattribute__")))
    (h_r3_Term_choice : PySem.W.findCls K (.ref C_Term) (.type "type") "choice" = some (.get (.builtin "staticmethod.__get__") (.ref p_Term_choice) .none (.ref C_Term)))
    (h_r4_Term_choice : PySem.W.recIn K p_Term_choice "staticmethod" = some (.ref f_Term_choice :: re_Term_choice))
    (h_l_Term___str__ : K.lookup f_Term___str__ = some ⟨oc_Term___str__, od_Term___str__, .func (PySem.W.fnOf "__str__" "Term.__str__" (defArgs s_Term___str__) (defBody s_Term___str__) (defScope s_Term___str__) .none kV_Term___str__ dc_Term___str__ pm_Term___str__ an_Term___str__ cd_Term___str__ ct_Term___str__), sl_Term___str__⟩)
    (h_c_Term___str__ : PySem.W.codeIn K cd_Term___str__ "Term.__str__" = true)
    (h_k_Term___str__ : PySem.W.keepIn K (.ref f_Term___str__) = true)
    (h_a_Term___str__ : PySem.W.findIn K (.ref C_Term) "__str__" = some (some (.ref f_Term___str__)))
    (h_i_Term___str__ : PySem.W.isFn K (.ref f_Term___str__) = true)
    (h_fm_Term : PySem.W.findIn K (.ref C_Term) "__format__" = some (some (.builtin "object.__format__")))
    (h_l_Term_variables : K.lookup f_Term_variables = some ⟨oc_Term_variables, od_Term_variables, .func (PySem.W.fnOf "variables" "Term.variables" (defArgs s_Term_variables) (defBody s_Term_variables) (defScope s_Term_variables) .none kV_Term_variables dc_Term_variables pm_Term_variables an_Term_variables cd_Term_variables ct_Term_variables), sl_Term_variables⟩)
    (h_c_Term_variables : PySem.W.codeIn K cd_Term_variables "Term.variables" = true)
    (h_k_Term_variables : PySem.W.keepIn K (.ref f_Term_variables) = true)
    (h_a_Term_variables : PySem.W.findIn K (.ref C_Term) "variables" = some (some (.ref f_Term_variables)))
    (h_i_Term_variables : PySem.W.isFn K (.ref f_Term_variables) = true)
    (h_l_Term_constants : K.lookup f_Term_constants = some ⟨oc_Term_constants, od_Term_constants, .func (PySem.W.fnOf "constants" "Term.constants" (defArgs s_Term_constants) (defBody s_Term_constants) (defScope s_Term_constants) .none kV_Term_constants dc_Term_constants pm_Term_constants an_Term_constants cd_Term_constants ct_Term_constants), sl_Term_constants⟩)
    (h_c_Term_constants : PySem.W.codeIn K cd_Term_constants "Term.constants" = true)
    (h_k_Term_constants : PySem.W.keepIn K (.ref f_Term_constants) = true)
    (h_a_Term_constants : PySem.W.findIn K (.ref C_Term) "constants" = some (some (.ref f_Term_constants)))
    (h_i_Term_constants : PySem.W.isFn K (.ref f_Term_constants) = true)
    (h_l_Term_parts : K.lookup f_Term_parts = some ⟨oc_Term_parts, od_Term_parts, .func (PySem.W.fnOf "parts" "Term.parts" (defArgs s_Term_parts) (defBody s_Term_parts) (defScope s_Term_parts) .none kV_Term_parts dc_Term_parts pm_Term_parts an_Term_parts cd_Term_parts ct_Term_parts), sl_Term_parts⟩)
    (h_c_Term_parts : PySem.W.codeIn K cd_Term_parts "Term.parts" = true)
    (h_k_Term_parts : PySem.W.keepIn K (.ref f_Term_parts) = true)
    (h_a_Term_parts : PySem.W.findIn K (.ref C_Term) "parts" = some (some (.ref f_Term_parts)))
    (h_i_Term_parts : PySem.W.isFn K (.ref f_Term_parts) = true)
    (h_l_Term___eq__ : K.lookup f_Term___eq__ = some ⟨oc_Term___eq__, od_Term___eq__, .func (PySem.W.fnOf "__eq__" "Term.__eq__" (defArgs s_Term___eq__) (defBody s_Term___eq__) (defScope s_Term___eq__) .none kV_Term___eq__ dc_Term___eq__ pm_Term___eq__ an_Term___eq__ cd_Term___eq__ ct_Term___eq__), sl_Term___eq__⟩)
    (h_c_Term___eq__ : PySem.W.codeIn K cd_Term___eq__ "Term.__eq__" = true)
    (h_k_Term___eq__ : PySem.W.keepIn K (.ref f_Term___eq__) = true)
    (h_a_Term___eq__ : PySem.W.findIn K (.ref C_Term) "__eq__" = some (some (.ref f_Term___eq__)))
    (h_i_Term___eq__ : PySem.W.isFn K (.ref f_Term___eq__) = true)
    (h_ne_Term : PySem.W.findIn K (.ref C_Term) "__ne__" = some (some (.builtin "object.__ne__")))
    (h_nf_Term : PySem.W.notFirst K C_Term (.type "str") = true)
    (h_nx_Term_int : PySem.W.notFirst K C_Term (.type "int") = true)
    (h_nx_Term_tuple : PySem.W.notFirst K C_Term (.type "tuple") = true)
    (h_nx_Term_NoneType : PySem.W.notFirst K C_Term (.type "NoneType") = true)
    (h_nx_Term_bool : PySem.W.notFirst K C_Term (.type "bool") = true)
    (h_nx_Term_list : PySem.W.notFirst K C_Term (.type "list") = true)
    (h_nx_Term_dict : PySem.W.notFirst K C_Term (.type "dict") = true)
    (h_l_Term_within : K.lookup f_Term_within = some ⟨oc_Term_within, od_Term_within, .func (PySem.W.fnOf "within" "Term.within" (defArgs s_Term_within) (defBody s_Term_within) (defScope s_Term_within) .none kV_Term_within dc_Term_within pm_Term_within an_Term_within cd_Term_within ct_Term_within), sl_Term_within⟩)
    (h_c_Term_within : PySem.W.codeIn K cd_Term_within "Term.within" = true)
    (h_k_Term_within : PySem.W.keepIn K (.ref f_Term_within) = true)
    (h_a_Term_within : PySem.W.findIn K (.ref C_Term) "within" = some (some (.ref f_Term_within)))
    (h_i_Term_within : PySem.W.isFn K (.ref f_Term_within) = true)
    (h_no_Term_tree : PySem.W.findIn K (.ref C_Term) "tree" = some none)
    (h_v_MOST_WAITS : PySem.W.nsIn K mainGlobals "MOST_WAITS" = some (some (.int 4 t_MOST_WAITS)))
    (h_v_MOST_DEEDS : PySem.W.nsIn K mainGlobals "MOST_DEEDS" = some (some (.int 4 t_MOST_DEEDS)))
    (h_v_RESERVED : PySem.W.nsIn K mainGlobals "RESERVED" = some (some (.str "turn" t_RESERVED)))
    (h_v_AT_ONCE : PySem.W.nsIn K mainGlobals "AT_ONCE" = some (some (.str " := " t_AT_ONCE)))
    (h_v_AT_THE_END : PySem.W.nsIn K mainGlobals "AT_THE_END" = some (some (.str " <= " t_AT_THE_END)))
    (h_a_deed_parts : PySem.W.nsIn K mainGlobals "deed_parts" = some (some (.ref f_deed_parts)))
    (h_l_deed_parts : K.lookup f_deed_parts = some ⟨oc_deed_parts, od_deed_parts, .func (PySem.W.fnOf "deed_parts" "deed_parts" (defArgs s_deed_parts) (defBody s_deed_parts) (defScope s_deed_parts) .none kV_deed_parts dc_deed_parts pm_deed_parts an_deed_parts cd_deed_parts ct_deed_parts), sl_deed_parts⟩)
    (h_c_deed_parts : PySem.W.codeIn K cd_deed_parts "deed_parts" = true)
    (h_k_deed_parts : PySem.W.keepIn K (.ref f_deed_parts) = true)
    (h_g_Deed : PySem.W.nsIn K mainGlobals "Deed" = some (some (.ref C_Deed)))
    (h_pg_Deed : PySem.W.plainGet K C_Deed Str.empty = true)
    (h_hd_Deed : PySem.W.hasDictIn K C_Deed = true)
    (h_po_Deed : PySem.W.plainOver K C_Deed = true)
    (h_sa_Deed : PySem.W.findIn K (.ref C_Deed) "__setattr__" = some (some (.builtin "object.__setattr__")))
    (h_kp_Deed : PySem.W.keepIn K (.ref C_Deed) = true)
    (h_ty_Deed : PySem.W.findIn K (.ref C_Deed) "__class__" = some (some (.builtin "object.__class__")))
    (h_mo_Deed : PySem.W.mroIn K C_Deed (.type "object") = some true)
    (h_kit_Deed_NoneType : PySem.W.kitOne K (.type "NoneType") (.ref C_Deed) = some false)
    (h_kit_Deed_bool : PySem.W.kitOne K (.type "bool") (.ref C_Deed) = some false)
    (h_kit_Deed_int : PySem.W.kitOne K (.type "int") (.ref C_Deed) = some false)
    (h_kit_Deed_str : PySem.W.kitOne K (.type "str") (.ref C_Deed) = some false)
    (h_kit_Deed_list : PySem.W.kitOne K (.type "list") (.ref C_Deed) = some false)
    (h_kit_Deed_tuple : PySem.W.kitOne K (.type "tuple") (.ref C_Deed) = some false)
    (h_kit_Deed_dict : PySem.W.kitOne K (.type "dict") (.ref C_Deed) = some false)
    (h_kik_Deed_list : PySem.W.kitOne K (.ref C_Deed) (.type "list") = some false)
    (h_kik_Deed_tuple : PySem.W.kitOne K (.ref C_Deed) (.type "tuple") = some false)
    (h_kik_Deed_str : PySem.W.kitOne K (.ref C_Deed) (.type "str") = some false)
    (h_kit_Deed : PySem.W.kitOne K (.ref C_Deed) (.ref C_Deed) = some true)
    (h_l_Deed___init__ : K.lookup f_Deed___init__ = some ⟨oc_Deed___init__, od_Deed___init__, .func (PySem.W.fnOf "__init__" "Deed.__init__" (defArgs s_Deed___init__) (defBody s_Deed___init__) (defScope s_Deed___init__) .none (.ref kD_Deed___init__) dc_Deed___init__ pm_Deed___init__ an_Deed___init__ cd_Deed___init__ ct_Deed___init__), sl_Deed___init__⟩)
    (h_c_Deed___init__ : PySem.W.codeIn K cd_Deed___init__ "Deed.__init__" = true)
    (h_k_Deed___init__ : PySem.W.keepIn K (.ref f_Deed___init__) = true)
    (h_kw_Deed___init___late : PySem.W.nsIn K kD_Deed___init__ "late" = some (some (.bool false)))
    (h_a_Deed___init__ : PySem.W.findIn K (.ref C_Deed) "__init__" = some (some (.ref f_Deed___init__)))
    (h_i_Deed___init__ : PySem.W.isFn K (.ref f_Deed___init__) = true)
    (h_mk_Deed : PySem.W.makesIn K C_Deed = true)
    (h_l_Deed_of : K.lookup f_Deed_of = some ⟨oc_Deed_of, od_Deed_of, .func (PySem.W.fnOf "of" "Deed.of" (defArgs s_Deed_of) (defBody s_Deed_of) (defScope s_Deed_of) .none kV_Deed_of dc_Deed_of pm_Deed_of an_Deed_of cd_Deed_of ct_Deed_of), sl_Deed_of⟩)
    (h_c_Deed_of : PySem.W.codeIn K cd_Deed_of "Deed.of" = true)
    (h_k_Deed_of : PySem.W.keepIn K (.ref f_Deed_of) = true)
    (h_r1_Deed_of : PySem.W.readsIn K C_Deed (.type "type") = true)
    (h_r2_Deed_of : PySem.W.specialIn K (.ref C_Deed) "__getattribute__" = some (some (.builtin "type.__getattribute__")))
    (h_r3_Deed_of : PySem.W.findCls K (.ref C_Deed) (.type "type") "of" = some (.get (.builtin "staticmethod.__get__") (.ref p_Deed_of) .none (.ref C_Deed)))
    (h_r4_Deed_of : PySem.W.recIn K p_Deed_of "staticmethod" = some (.ref f_Deed_of :: re_Deed_of))
    (h_l_Deed_variable : K.lookup f_Deed_variable = some ⟨oc_Deed_variable, od_Deed_variable, .func (PySem.W.fnOf "variable" "Deed.variable" (defArgs s_Deed_variable) (defBody s_Deed_variable) (defScope s_Deed_variable) .none kV_Deed_variable dc_Deed_variable pm_Deed_variable an_Deed_variable cd_Deed_variable ct_Deed_variable), sl_Deed_variable⟩)
    (h_c_Deed_variable : PySem.W.codeIn K cd_Deed_variable "Deed.variable" = true)
    (h_k_Deed_variable : PySem.W.keepIn K (.ref f_Deed_variable) = true)
    (h_q1_Deed_variable : PySem.W.findIn K (.ref C_Deed) "variable" = some (some (.ref p_Deed_variable)))
    (h_q2_Deed_variable : PySem.W.specialIn K (.ref p_Deed_variable) "__get__" = some (some (.builtin "property.__get__")))
    (h_q3_Deed_variable : PySem.W.takesIn K (.ref p_Deed_variable) = some true)
    (h_q4_Deed_variable : PySem.W.recIn K p_Deed_variable "property" = some (.ref f_Deed_variable :: re_Deed_variable))
    (h_l_Deed_term : K.lookup f_Deed_term = some ⟨oc_Deed_term, od_Deed_term, .func (PySem.W.fnOf "term" "Deed.term" (defArgs s_Deed_term) (defBody s_Deed_term) (defScope s_Deed_term) .none kV_Deed_term dc_Deed_term pm_Deed_term an_Deed_term cd_Deed_term ct_Deed_term), sl_Deed_term⟩)
    (h_c_Deed_term : PySem.W.codeIn K cd_Deed_term "Deed.term" = true)
    (h_k_Deed_term : PySem.W.keepIn K (.ref f_Deed_term) = true)
    (h_q1_Deed_term : PySem.W.findIn K (.ref C_Deed) "term" = some (some (.ref p_Deed_term)))
    (h_q2_Deed_term : PySem.W.specialIn K (.ref p_Deed_term) "__get__" = some (some (.builtin "property.__get__")))
    (h_q3_Deed_term : PySem.W.takesIn K (.ref p_Deed_term) = some true)
    (h_q4_Deed_term : PySem.W.recIn K p_Deed_term "property" = some (.ref f_Deed_term :: re_Deed_term))
    (h_l_Deed_late : K.lookup f_Deed_late = some ⟨oc_Deed_late, od_Deed_late, .func (PySem.W.fnOf "late" "Deed.late" (defArgs s_Deed_late) (defBody s_Deed_late) (defScope s_Deed_late) .none kV_Deed_late dc_Deed_late pm_Deed_late an_Deed_late cd_Deed_late ct_Deed_late), sl_Deed_late⟩)
    (h_c_Deed_late : PySem.W.codeIn K cd_Deed_late "Deed.late" = true)
    (h_k_Deed_late : PySem.W.keepIn K (.ref f_Deed_late) = true)
    (h_q1_Deed_late : PySem.W.findIn K (.ref C_Deed) "late" = some (some (.ref p_Deed_late)))
    (h_q2_Deed_late : PySem.W.specialIn K (.ref p_Deed_late) "__get__" = some (some (.builtin "property.__get__")))
    (h_q3_Deed_late : PySem.W.takesIn K (.ref p_Deed_late) = some true)
    (h_q4_Deed_late : PySem.W.recIn K p_Deed_late "property" = some (.ref f_Deed_late :: re_Deed_late))
    (h_l_Deed___str__ : K.lookup f_Deed___str__ = some ⟨oc_Deed___str__, od_Deed___str__, .func (PySem.W.fnOf "__str__" "Deed.__str__" (defArgs s_Deed___str__) (defBody s_Deed___str__) (defScope s_Deed___str__) .none kV_Deed___str__ dc_Deed___str__ pm_Deed___str__ an_Deed___str__ cd_Deed___str__ ct_Deed___str__), sl_Deed___str__⟩)
    (h_c_Deed___str__ : PySem.W.codeIn K cd_Deed___str__ "Deed.__str__" = true)
    (h_k_Deed___str__ : PySem.W.keepIn K (.ref f_Deed___str__) = true)
    (h_a_Deed___str__ : PySem.W.findIn K (.ref C_Deed) "__str__" = some (some (.ref f_Deed___str__)))
    (h_i_Deed___str__ : PySem.W.isFn K (.ref f_Deed___str__) = true)
    (h_fm_Deed : PySem.W.findIn K (.ref C_Deed) "__format__" = some (some (.builtin "object.__format__")))
    (h_l_Deed___eq__ : K.lookup f_Deed___eq__ = some ⟨oc_Deed___eq__, od_Deed___eq__, .func (PySem.W.fnOf "__eq__" "Deed.__eq__" (defArgs s_Deed___eq__) (defBody s_Deed___eq__) (defScope s_Deed___eq__) .none kV_Deed___eq__ dc_Deed___eq__ pm_Deed___eq__ an_Deed___eq__ cd_Deed___eq__ ct_Deed___eq__), sl_Deed___eq__⟩)
    (h_c_Deed___eq__ : PySem.W.codeIn K cd_Deed___eq__ "Deed.__eq__" = true)
    (h_k_Deed___eq__ : PySem.W.keepIn K (.ref f_Deed___eq__) = true)
    (h_a_Deed___eq__ : PySem.W.findIn K (.ref C_Deed) "__eq__" = some (some (.ref f_Deed___eq__)))
    (h_i_Deed___eq__ : PySem.W.isFn K (.ref f_Deed___eq__) = true)
    (h_ne_Deed : PySem.W.findIn K (.ref C_Deed) "__ne__" = some (some (.builtin "object.__ne__")))
    (h_nf_Deed : PySem.W.notFirst K C_Deed (.type "str") = true)
    (h_nx_Deed_int : PySem.W.notFirst K C_Deed (.type "int") = true)
    (h_nx_Deed_tuple : PySem.W.notFirst K C_Deed (.type "tuple") = true)
    (h_nx_Deed_NoneType : PySem.W.notFirst K C_Deed (.type "NoneType") = true)
    (h_nx_Deed_bool : PySem.W.notFirst K C_Deed (.type "bool") = true)
    (h_nx_Deed_list : PySem.W.notFirst K C_Deed (.type "list") = true)
    (h_nx_Deed_dict : PySem.W.notFirst K C_Deed (.type "dict") = true)
    (h_no_Deed_is_late : PySem.W.findIn K (.ref C_Deed) "is_late" = some none)
    (h_no_Deed_source : PySem.W.findIn K (.ref C_Deed) "source" = some none)
    (h_no_Deed_target : PySem.W.findIn K (.ref C_Deed) "target" = some none)
    (h_a_deeds_of : PySem.W.nsIn K mainGlobals "deeds_of" = some (some (.ref f_deeds_of)))
    (h_l_deeds_of : K.lookup f_deeds_of = some ⟨oc_deeds_of, od_deeds_of, .func (PySem.W.fnOf "deeds_of" "deeds_of" (defArgs s_deeds_of) (defBody s_deeds_of) (defScope s_deeds_of) .none kV_deeds_of dc_deeds_of pm_deeds_of an_deeds_of cd_deeds_of ct_deeds_of), sl_deeds_of⟩)
    (h_c_deeds_of : PySem.W.codeIn K cd_deeds_of "deeds_of" = true)
    (h_k_deeds_of : PySem.W.keepIn K (.ref f_deeds_of) = true)
    (h_g_Process : PySem.W.nsIn K mainGlobals "Process" = some (some (.ref C_Process)))
    (h_pg_Process : PySem.W.plainGet K C_Process Str.empty = true)
    (h_hd_Process : PySem.W.hasDictIn K C_Process = true)
    (h_po_Process : PySem.W.plainOver K C_Process = true)
    (h_sa_Process : PySem.W.findIn K (.ref C_Process) "__setattr__" = some (some (.builtin "object.__setattr__")))
    (h_kp_Process : PySem.W.keepIn K (.ref C_Process) = true)
    (h_ty_Process : PySem.W.findIn K (.ref C_Process) "__class__" = some (some (.builtin "object.__class__")))
    (h_mo_Process : PySem.W.mroIn K C_Process (.type "object") = some true)
    (h_kit_Process_NoneType : PySem.W.kitOne K (.type "NoneType") (.ref C_Process) = some false)
    (h_kit_Process_bool : PySem.W.kitOne K (.type "bool") (.ref C_Process) = some false)
    (h_kit_Process_int : PySem.W.kitOne K (.type "int") (.ref C_Process) = some false)
    (h_kit_Process_str : PySem.W.kitOne K (.type "str") (.ref C_Process) = some false)
    (h_kit_Process_list : PySem.W.kitOne K (.type "list") (.ref C_Process) = some false)
    (h_kit_Process_tuple : PySem.W.kitOne K (.type "tuple") (.ref C_Process) = some false)
    (h_kit_Process_dict : PySem.W.kitOne K (.type "dict") (.ref C_Process) = some false)
    (h_kik_Process_list : PySem.W.kitOne K (.ref C_Process) (.type "list") = some false)
    (h_kik_Process_tuple : PySem.W.kitOne K (.ref C_Process) (.type "tuple") = some false)
    (h_kik_Process_str : PySem.W.kitOne K (.ref C_Process) (.type "str") = some false)
    (h_kit_Process : PySem.W.kitOne K (.ref C_Process) (.ref C_Process) = some true)
    (h_l_Process___init__ : K.lookup f_Process___init__ = some ⟨oc_Process___init__, od_Process___init__, .func (PySem.W.fnOf "__init__" "Process.__init__" (defArgs s_Process___init__) (defBody s_Process___init__) (defScope s_Process___init__) .none kV_Process___init__ dc_Process___init__ pm_Process___init__ an_Process___init__ cd_Process___init__ ct_Process___init__), sl_Process___init__⟩)
    (h_c_Process___init__ : PySem.W.codeIn K cd_Process___init__ "Process.__init__" = true)
    (h_k_Process___init__ : PySem.W.keepIn K (.ref f_Process___init__) = true)
    (h_a_Process___init__ : PySem.W.findIn K (.ref C_Process) "__init__" = some (some (.ref f_Process___init__)))
    (h_i_Process___init__ : PySem.W.isFn K (.ref f_Process___init__) = true)
    (h_mk_Process : PySem.W.makesIn K C_Process = true)
    (h_l_Process_name : K.lookup f_Process_name = some ⟨oc_Process_name, od_Process_name, .func (PySem.W.fnOf "name" "Process.name" (defArgs s_Process_name) (defBody s_Process_name) (defScope s_Process_name) .none kV_Process_name dc_Process_name pm_Process_name an_Process_name cd_Process_name ct_Process_name), sl_Process_name⟩)
    (h_c_Process_name : PySem.W.codeIn K cd_Process_name "Process.name" = true)
    (h_k_Process_name : PySem.W.keepIn K (.ref f_Process_name) = true)
    (h_q1_Process_name : PySem.W.findIn K (.ref C_Process) "name" = some (some (.ref p_Process_name)))
    (h_q2_Process_name : PySem.W.specialIn K (.ref p_Process_name) "__get__" = some (some (.builtin "property.__get__")))
    (h_q3_Process_name : PySem.W.takesIn K (.ref p_Process_name) = some true)
    (h_q4_Process_name : PySem.W.recIn K p_Process_name "property" = some (.ref f_Process_name :: re_Process_name))
    (h_l_Process_reads : K.lookup f_Process_reads = some ⟨oc_Process_reads, od_Process_reads, .func (PySem.W.fnOf "reads" "Process.reads" (defArgs s_Process_reads) (defBody s_Process_reads) (defScope s_Process_reads) .none kV_Process_reads dc_Process_reads pm_Process_reads an_Process_reads cd_Process_reads ct_Process_reads), sl_Process_reads⟩)
    (h_c_Process_reads : PySem.W.codeIn K cd_Process_reads "Process.reads" = true)
    (h_k_Process_reads : PySem.W.keepIn K (.ref f_Process_reads) = true)
    (h_a_Process_reads : PySem.W.findIn K (.ref C_Process) "reads" = some (some (.ref f_Process_reads)))
    (h_i_Process_reads : PySem.W.isFn K (.ref f_Process_reads) = true)
    (h_l_Process_writes : K.lookup f_Process_writes = some ⟨oc_Process_writes, od_Process_writes, .func (PySem.W.fnOf "writes" "Process.writes" (defArgs s_Process_writes) (defBody s_Process_writes) (defScope s_Process_writes) .none kV_Process_writes dc_Process_writes pm_Process_writes an_Process_writes cd_Process_writes ct_Process_writes), sl_Process_writes⟩)
    (h_c_Process_writes : PySem.W.codeIn K cd_Process_writes "Process.writes" = true)
    (h_k_Process_writes : PySem.W.keepIn K (.ref f_Process_writes) = true)
    (h_a_Process_writes : PySem.W.findIn K (.ref C_Process) "writes" = some (some (.ref f_Process_writes)))
    (h_i_Process_writes : PySem.W.isFn K (.ref f_Process_writes) = true)
    (h_l_Process_written : K.lookup f_Process_written = some ⟨oc_Process_written, od_Process_written, .func (PySem.W.fnOf "written" "Process.written" (defArgs s_Process_written) (defBody s_Process_written) (defScope s_Process_written) .none kV_Process_written dc_Process_written pm_Process_written an_Process_written cd_Process_written ct_Process_written), sl_Process_written⟩)
    (h_c_Process_written : PySem.W.codeIn K cd_Process_written "Process.written" = true)
    (h_k_Process_written : PySem.W.keepIn K (.ref f_Process_written) = true)
    (h_a_Process_written : PySem.W.findIn K (.ref C_Process) "written" = some (some (.ref f_Process_written)))
    (h_i_Process_written : PySem.W.isFn K (.ref f_Process_written) = true)
    (h_l_Process_constants : K.lookup f_Process_constants = some ⟨oc_Process_constants, od_Process_constants, .func (PySem.W.fnOf "constants" "Process.constants" (defArgs s_Process_constants) (defBody s_Process_constants) (defScope s_Process_constants) .none kV_Process_constants dc_Process_constants pm_Process_constants an_Process_constants cd_Process_constants ct_Process_constants), sl_Process_constants⟩)
    (h_c_Process_constants : PySem.W.codeIn K cd_Process_constants "Process.constants" = true)
    (h_k_Process_constants : PySem.W.keepIn K (.ref f_Process_constants) = true)
    (h_a_Process_constants : PySem.W.findIn K (.ref C_Process) "constants" = some (some (.ref f_Process_constants)))
    (h_i_Process_constants : PySem.W.isFn K (.ref f_Process_constants) = true)
    (h_l_Process_variables : K.lookup f_Process_variables = some ⟨oc_Process_variables, od_Process_variables, .func (PySem.W.fnOf "variables" "Process.variables" (defArgs s_Process_variables) (defBody s_Process_variables) (defScope s_Process_variables) .none kV_Process_variables dc_Process_variables pm_Process_variables an_Process_variables cd_Process_variables ct_Process_variables), sl_Process_variables⟩)
    (h_c_Process_variables : PySem.W.codeIn K cd_Process_variables "Process.variables" = true)
    (h_k_Process_variables : PySem.W.keepIn K (.ref f_Process_variables) = true)
    (h_a_Process_variables : PySem.W.findIn K (.ref C_Process) "variables" = some (some (.ref f_Process_variables)))
    (h_i_Process_variables : PySem.W.isFn K (.ref f_Process_variables) = true)
    (h_l_Process_at_once : K.lookup f_Process_at_once = some ⟨oc_Process_at_once, od_Process_at_once, .func (PySem.W.fnOf "at_once" "Process.at_once" (defArgs s_Process_at_once) (defBody s_Process_at_once) (defScope s_Process_at_once) .none kV_Process_at_once dc_Process_at_once pm_Process_at_once an_Process_at_once cd_Process_at_once ct_Process_at_once), sl_Process_at_once⟩)
    (h_c_Process_at_once : PySem.W.codeIn K cd_Process_at_once "Process.at_once" = true)
    (h_k_Process_at_once : PySem.W.keepIn K (.ref f_Process_at_once) = true)
    (h_a_Process_at_once : PySem.W.findIn K (.ref C_Process) "at_once" = some (some (.ref f_Process_at_once)))
    (h_i_Process_at_once : PySem.W.isFn K (.ref f_Process_at_once) = true)
    (h_no_Process_done : PySem.W.findIn K (.ref C_Process) "done" = some none)
    (h_no_Process_title : PySem.W.findIn K (.ref C_Process) "title" = some none)
    (h_no_Process_waited : PySem.W.findIn K (.ref C_Process) "waited" = some none)
    (h_v_MOST_PROCESSES : PySem.W.nsIn K mainGlobals "MOST_PROCESSES" = some (some (.int 5 t_MOST_PROCESSES)))
    (h_v_MOST_INPUTS : PySem.W.nsIn K mainGlobals "MOST_INPUTS" = some (some (.int 3 t_MOST_INPUTS)))
    (h_v_MOST_VARIABLES : PySem.W.nsIn K mainGlobals "MOST_VARIABLES" = some (some (.int 5 t_MOST_VARIABLES)))
    (h_v_MOST_CONSTANTS : PySem.W.nsIn K mainGlobals "MOST_CONSTANTS" = some (some (.int 2 t_MOST_CONSTANTS)))
    (h_v_MOST_AT_ONCE : PySem.W.nsIn K mainGlobals "MOST_AT_ONCE" = some (some (.int 8 t_MOST_AT_ONCE)))
    (h_a_are_processes : PySem.W.nsIn K mainGlobals "are_processes" = some (some (.ref f_are_processes)))
    (h_l_are_processes : K.lookup f_are_processes = some ⟨oc_are_processes, od_are_processes, .func (PySem.W.fnOf "are_processes" "are_processes" (defArgs s_are_processes) (defBody s_are_processes) (defScope s_are_processes) .none kV_are_processes dc_are_processes pm_are_processes an_are_processes cd_are_processes ct_are_processes), sl_are_processes⟩)
    (h_c_are_processes : PySem.W.codeIn K cd_are_processes "are_processes" = true)
    (h_k_are_processes : PySem.W.keepIn K (.ref f_are_processes) = true)
    (h_a_are_inputs : PySem.W.nsIn K mainGlobals "are_inputs" = some (some (.ref f_are_inputs)))
    (h_l_are_inputs : K.lookup f_are_inputs = some ⟨oc_are_inputs, od_are_inputs, .func (PySem.W.fnOf "are_inputs" "are_inputs" (defArgs s_are_inputs) (defBody s_are_inputs) (defScope s_are_inputs) .none kV_are_inputs dc_are_inputs pm_are_inputs an_are_inputs cd_are_inputs ct_are_inputs), sl_are_inputs⟩)
    (h_c_are_inputs : PySem.W.codeIn K cd_are_inputs "are_inputs" = true)
    (h_k_are_inputs : PySem.W.keepIn K (.ref f_are_inputs) = true)
    (h_a_all_variables : PySem.W.nsIn K mainGlobals "all_variables" = some (some (.ref f_all_variables)))
    (h_l_all_variables : K.lookup f_all_variables = some ⟨oc_all_variables, od_all_variables, .func (PySem.W.fnOf "all_variables" "all_variables" (defArgs s_all_variables) (defBody s_all_variables) (defScope s_all_variables) .none kV_all_variables dc_all_variables pm_all_variables an_all_variables cd_all_variables ct_all_variables), sl_all_variables⟩)
    (h_c_all_variables : PySem.W.codeIn K cd_all_variables "all_variables" = true)
    (h_k_all_variables : PySem.W.keepIn K (.ref f_all_variables) = true)
    (h_a_all_constants : PySem.W.nsIn K mainGlobals "all_constants" = some (some (.ref f_all_constants)))
    (h_l_all_constants : K.lookup f_all_constants = some ⟨oc_all_constants, od_all_constants, .func (PySem.W.fnOf "all_constants" "all_constants" (defArgs s_all_constants) (defBody s_all_constants) (defScope s_all_constants) .none kV_all_constants dc_all_constants pm_all_constants an_all_constants cd_all_constants ct_all_constants), sl_all_constants⟩)
    (h_c_all_constants : PySem.W.codeIn K cd_all_constants "all_constants" = true)
    (h_k_all_constants : PySem.W.keepIn K (.ref f_all_constants) = true)
    (h_a_first_wrong : PySem.W.nsIn K mainGlobals "first_wrong" = some (some (.ref f_first_wrong)))
    (h_l_first_wrong : K.lookup f_first_wrong = some ⟨oc_first_wrong, od_first_wrong, .func (PySem.W.fnOf "first_wrong" "first_wrong" (defArgs s_first_wrong) (defBody s_first_wrong) (defScope s_first_wrong) .none kV_first_wrong dc_first_wrong pm_first_wrong an_first_wrong cd_first_wrong ct_first_wrong), sl_first_wrong⟩)
    (h_c_first_wrong : PySem.W.codeIn K cd_first_wrong "first_wrong" = true)
    (h_k_first_wrong : PySem.W.keepIn K (.ref f_first_wrong) = true)
    (h_g_Program : PySem.W.nsIn K mainGlobals "Program" = some (some (.ref C_Program)))
    (h_pg_Program : PySem.W.plainGet K C_Program Str.empty = true)
    (h_hd_Program : PySem.W.hasDictIn K C_Program = true)
    (h_po_Program : PySem.W.plainOver K C_Program = true)
    (h_sa_Program : PySem.W.findIn K (.ref C_Program) "__setattr__" = some (some (.builtin "object.__setattr__")))
    (h_kp_Program : PySem.W.keepIn K (.ref C_Program) = true)
    (h_ty_Program : PySem.W.findIn K (.ref C_Program) "__class__" = some (some (.builtin "object.__class__")))
    (h_mo_Program : PySem.W.mroIn K C_Program (.type "object") = some true)
    (h_kit_Program_NoneType : PySem.W.kitOne K (.type "NoneType") (.ref C_Program) = some false)
    (h_kit_Program_bool : PySem.W.kitOne K (.type "bool") (.ref C_Program) = some false)
    (h_kit_Program_int : PySem.W.kitOne K (.type "int") (.ref C_Program) = some false)
    (h_kit_Program_str : PySem.W.kitOne K (.type "str") (.ref C_Program) = some false)
    (h_kit_Program_list : PySem.W.kitOne K (.type "list") (.ref C_Program) = some false)
    (h_kit_Program_tuple : PySem.W.kitOne K (.type "tuple") (.ref C_Program) = some false)
    (h_kit_Program_dict : PySem.W.kitOne K (.type "dict") (.ref C_Program) = some false)
    (h_kik_Program_list : PySem.W.kitOne K (.ref C_Program) (.type "list") = some false)
    (h_kik_Program_tuple : PySem.W.kitOne K (.ref C_Program) (.type "tuple") = some false)
    (h_kik_Program_str : PySem.W.kitOne K (.ref C_Program) (.type "str") = some false)
    (h_kit_Program : PySem.W.kitOne K (.ref C_Program) (.ref C_Program) = some true)
    (h_l_Program___init__ : K.lookup f_Program___init__ = some ⟨oc_Program___init__, od_Program___init__, .func (PySem.W.fnOf "__init__" "Program.__init__" (defArgs s_Program___init__) (defBody s_Program___init__) (defScope s_Program___init__) .none kV_Program___init__ dc_Program___init__ pm_Program___init__ an_Program___init__ cd_Program___init__ ct_Program___init__), sl_Program___init__⟩)
    (h_c_Program___init__ : PySem.W.codeIn K cd_Program___init__ "Program.__init__" = true)
    (h_k_Program___init__ : PySem.W.keepIn K (.ref f_Program___init__) = true)
    (h_a_Program___init__ : PySem.W.findIn K (.ref C_Program) "__init__" = some (some (.ref f_Program___init__)))
    (h_i_Program___init__ : PySem.W.isFn K (.ref f_Program___init__) = true)
    (h_mk_Program : PySem.W.makesIn K C_Program = true)
    (h_l_Program_names : K.lookup f_Program_names = some ⟨oc_Program_names, od_Program_names, .func (PySem.W.fnOf "names" "Program.names" (defArgs s_Program_names) (defBody s_Program_names) (defScope s_Program_names) .none kV_Program_names dc_Program_names pm_Program_names an_Program_names cd_Program_names ct_Program_names), sl_Program_names⟩)
    (h_c_Program_names : PySem.W.codeIn K cd_Program_names "Program.names" = true)
    (h_k_Program_names : PySem.W.keepIn K (.ref f_Program_names) = true)
    (h_a_Program_names : PySem.W.findIn K (.ref C_Program) "names" = some (some (.ref f_Program_names)))
    (h_i_Program_names : PySem.W.isFn K (.ref f_Program_names) = true)
    (h_l_Program_place_of : K.lookup f_Program_place_of = some ⟨oc_Program_place_of, od_Program_place_of, .func (PySem.W.fnOf "place_of" "Program.place_of" (defArgs s_Program_place_of) (defBody s_Program_place_of) (defScope s_Program_place_of) .none kV_Program_place_of dc_Program_place_of pm_Program_place_of an_Program_place_of cd_Program_place_of ct_Program_place_of), sl_Program_place_of⟩)
    (h_c_Program_place_of : PySem.W.codeIn K cd_Program_place_of "Program.place_of" = true)
    (h_k_Program_place_of : PySem.W.keepIn K (.ref f_Program_place_of) = true)
    (h_a_Program_place_of : PySem.W.findIn K (.ref C_Program) "place_of" = some (some (.ref f_Program_place_of)))
    (h_i_Program_place_of : PySem.W.isFn K (.ref f_Program_place_of) = true)
    (h_l_Program___len__ : K.lookup f_Program___len__ = some ⟨oc_Program___len__, od_Program___len__, .func (PySem.W.fnOf "__len__" "Program.__len__" (defArgs s_Program___len__) (defBody s_Program___len__) (defScope s_Program___len__) .none kV_Program___len__ dc_Program___len__ pm_Program___len__ an_Program___len__ cd_Program___len__ ct_Program___len__), sl_Program___len__⟩)
    (h_c_Program___len__ : PySem.W.codeIn K cd_Program___len__ "Program.__len__" = true)
    (h_k_Program___len__ : PySem.W.keepIn K (.ref f_Program___len__) = true)
    (h_a_Program___len__ : PySem.W.findIn K (.ref C_Program) "__len__" = some (some (.ref f_Program___len__)))
    (h_i_Program___len__ : PySem.W.isFn K (.ref f_Program___len__) = true)
    (h_no_Program_given : PySem.W.findIn K (.ref C_Program) "given" = some none)
    (h_no_Program_line : PySem.W.findIn K (.ref C_Program) "line" = some none)
    (h_no_Program_numbers : PySem.W.findIn K (.ref C_Program) "numbers" = some none)
    (h_no_Program_titles : PySem.W.findIn K (.ref C_Program) "titles" = some none)
    (h_no_Program_words : PySem.W.findIn K (.ref C_Program) "words" = some none)
    (h_a_waiters : PySem.W.nsIn K mainGlobals "waiters" = some (some (.ref f_waiters)))
    (h_l_waiters : K.lookup f_waiters = some ⟨oc_waiters, od_waiters, .func (PySem.W.fnOf "waiters" "waiters" (defArgs s_waiters) (defBody s_waiters) (defScope s_waiters) .none kV_waiters dc_waiters pm_waiters an_waiters cd_waiters ct_waiters), sl_waiters⟩)
    (h_c_waiters : PySem.W.codeIn K cd_waiters "waiters" = true)
    (h_k_waiters : PySem.W.keepIn K (.ref f_waiters) = true)
    (h_a_woken_at_once : PySem.W.nsIn K mainGlobals "woken_at_once" = some (some (.ref f_woken_at_once)))
    (h_l_woken_at_once : K.lookup f_woken_at_once = some ⟨oc_woken_at_once, od_woken_at_once, .func (PySem.W.fnOf "woken_at_once" "woken_at_once" (defArgs s_woken_at_once) (defBody s_woken_at_once) (defScope s_woken_at_once) .none kV_woken_at_once dc_woken_at_once pm_woken_at_once an_woken_at_once cd_woken_at_once ct_woken_at_once), sl_woken_at_once⟩)
    (h_c_woken_at_once : PySem.W.codeIn K cd_woken_at_once "woken_at_once" = true)
    (h_k_woken_at_once : PySem.W.keepIn K (.ref f_woken_at_once) = true)
    (h_a_woken_late : PySem.W.nsIn K mainGlobals "woken_late" = some (some (.ref f_woken_late)))
    (h_l_woken_late : K.lookup f_woken_late = some ⟨oc_woken_late, od_woken_late, .func (PySem.W.fnOf "woken_late" "woken_late" (defArgs s_woken_late) (defBody s_woken_late) (defScope s_woken_late) .none kV_woken_late dc_woken_late pm_woken_late an_woken_late cd_woken_late ct_woken_late), sl_woken_late⟩)
    (h_c_woken_late : PySem.W.codeIn K cd_woken_late "woken_late" = true)
    (h_k_woken_late : PySem.W.keepIn K (.ref f_woken_late) = true)
    (h_a_woken_by : PySem.W.nsIn K mainGlobals "woken_by" = some (some (.ref f_woken_by)))
    (h_l_woken_by : K.lookup f_woken_by = some ⟨oc_woken_by, od_woken_by, .func (PySem.W.fnOf "woken_by" "woken_by" (defArgs s_woken_by) (defBody s_woken_by) (defScope s_woken_by) .none kV_woken_by dc_woken_by pm_woken_by an_woken_by cd_woken_by ct_woken_by), sl_woken_by⟩)
    (h_c_woken_by : PySem.W.codeIn K cd_woken_by "woken_by" = true)
    (h_k_woken_by : PySem.W.keepIn K (.ref f_woken_by) = true)
    (h_a_wakes : PySem.W.nsIn K mainGlobals "wakes" = some (some (.ref f_wakes)))
    (h_l_wakes : K.lookup f_wakes = some ⟨oc_wakes, od_wakes, .func (PySem.W.fnOf "wakes" "wakes" (defArgs s_wakes) (defBody s_wakes) (defScope s_wakes) .none kV_wakes dc_wakes pm_wakes an_wakes cd_wakes ct_wakes), sl_wakes⟩)
    (h_c_wakes : PySem.W.codeIn K cd_wakes "wakes" = true)
    (h_k_wakes : PySem.W.keepIn K (.ref f_wakes) = true)
    (h_a_wakings : PySem.W.nsIn K mainGlobals "wakings" = some (some (.ref f_wakings)))
    (h_l_wakings : K.lookup f_wakings = some ⟨oc_wakings, od_wakings, .func (PySem.W.fnOf "wakings" "wakings" (defArgs s_wakings) (defBody s_wakings) (defScope s_wakings) .none kV_wakings dc_wakings pm_wakings an_wakings cd_wakings ct_wakings), sl_wakings⟩)
    (h_c_wakings : PySem.W.codeIn K cd_wakings "wakings" = true)
    (h_k_wakings : PySem.W.keepIn K (.ref f_wakings) = true)
    (h_a__law_pool : PySem.W.nsIn K mainGlobals "_law_pool" = some (some (.ref f__law_pool)))
    (h_l__law_pool : K.lookup f__law_pool = some ⟨oc__law_pool, od__law_pool, .func (PySem.W.fnOf "_law_pool" "_law_pool" (defArgs s__law_pool) (defBody s__law_pool) (defScope s__law_pool) .none kV__law_pool dc__law_pool pm__law_pool an__law_pool cd__law_pool ct__law_pool), sl__law_pool⟩)
    (h_c__law_pool : PySem.W.codeIn K cd__law_pool "_law_pool" = true)
    (h_k__law_pool : PySem.W.keepIn K (.ref f__law_pool) = true)
    (h_a__law_take : PySem.W.nsIn K mainGlobals "_law_take" = some (some (.ref f__law_take)))
    (h_l__law_take : K.lookup f__law_take = some ⟨oc__law_take, od__law_take, .func (PySem.W.fnOf "_law_take" "_law_take" (defArgs s__law_take) (defBody s__law_take) (defScope s__law_take) .none kV__law_take dc__law_take pm__law_take an__law_take cd__law_take ct__law_take), sl__law_take⟩)
    (h_c__law_take : PySem.W.codeIn K cd__law_take "_law_take" = true)
    (h_k__law_take : PySem.W.keepIn K (.ref f__law_take) = true)
    (h_a__law_one : PySem.W.nsIn K mainGlobals "_law_one" = some (some (.ref f__law_one)))
    (h_l__law_one : K.lookup f__law_one = some ⟨oc__law_one, od__law_one, .func (PySem.W.fnOf "_law_one" "_law_one" (defArgs s__law_one) (defBody s__law_one) (defScope s__law_one) .none kV__law_one dc__law_one pm__law_one an__law_one cd__law_one ct__law_one), sl__law_one⟩)
    (h_c__law_one : PySem.W.codeIn K cd__law_one "_law_one" = true)
    (h_k__law_one : PySem.W.keepIn K (.ref f__law_one) = true)
    (h_a__law_turned : PySem.W.nsIn K mainGlobals "_law_turned" = some (some (.ref f__law_turned)))
    (h_l__law_turned : K.lookup f__law_turned = some ⟨oc__law_turned, od__law_turned, .func (PySem.W.fnOf "_law_turned" "_law_turned" (defArgs s__law_turned) (defBody s__law_turned) (defScope s__law_turned) .none kV__law_turned dc__law_turned pm__law_turned an__law_turned cd__law_turned ct__law_turned), sl__law_turned⟩)
    (h_c__law_turned : PySem.W.codeIn K cd__law_turned "_law_turned" = true)
    (h_k__law_turned : PySem.W.keepIn K (.ref f__law_turned) = true)
    (h_a__law_words : PySem.W.nsIn K mainGlobals "_law_words" = some (some (.ref f__law_words)))
    (h_l__law_words : K.lookup f__law_words = some ⟨oc__law_words, od__law_words, .func (PySem.W.fnOf "_law_words" "_law_words" (defArgs s__law_words) (defBody s__law_words) (defScope s__law_words) .none kV__law_words dc__law_words pm__law_words an__law_words cd__law_words ct__law_words), sl__law_words⟩)
    (h_c__law_words : PySem.W.codeIn K cd__law_words "_law_words" = true)
    (h_k__law_words : PySem.W.keepIn K (.ref f__law_words) = true)
    (h_a__law_tree : PySem.W.nsIn K mainGlobals "_law_tree" = some (some (.ref f__law_tree)))
    (h_l__law_tree : K.lookup f__law_tree = some ⟨oc__law_tree, od__law_tree, .func (PySem.W.fnOf "_law_tree" "_law_tree" (defArgs s__law_tree) (defBody s__law_tree) (defScope s__law_tree) .none kV__law_tree dc__law_tree pm__law_tree an__law_tree cd__law_tree ct__law_tree), sl__law_tree⟩)
    (h_c__law_tree : PySem.W.codeIn K cd__law_tree "_law_tree" = true)
    (h_k__law_tree : PySem.W.keepIn K (.ref f__law_tree) = true)
    (h_a__law_tree_text : PySem.W.nsIn K mainGlobals "_law_tree_text" = some (some (.ref f__law_tree_text)))
    (h_l__law_tree_text : K.lookup f__law_tree_text = some ⟨oc__law_tree_text, od__law_tree_text, .func (PySem.W.fnOf "_law_tree_text" "_law_tree_text" (defArgs s__law_tree_text) (defBody s__law_tree_text) (defScope s__law_tree_text) .none kV__law_tree_text dc__law_tree_text pm__law_tree_text an__law_tree_text cd__law_tree_text ct__law_tree_text), sl__law_tree_text⟩)
    (h_c__law_tree_text : PySem.W.codeIn K cd__law_tree_text "_law_tree_text" = true)
    (h_k__law_tree_text : PySem.W.keepIn K (.ref f__law_tree_text) = true)
    (h_a__law_deed_text : PySem.W.nsIn K mainGlobals "_law_deed_text" = some (some (.ref f__law_deed_text)))
    (h_l__law_deed_text : K.lookup f__law_deed_text = some ⟨oc__law_deed_text, od__law_deed_text, .func (PySem.W.fnOf "_law_deed_text" "_law_deed_text" (defArgs s__law_deed_text) (defBody s__law_deed_text) (defScope s__law_deed_text) .none kV__law_deed_text dc__law_deed_text pm__law_deed_text an__law_deed_text cd__law_deed_text ct__law_deed_text), sl__law_deed_text⟩)
    (h_c__law_deed_text : PySem.W.codeIn K cd__law_deed_text "_law_deed_text" = true)
    (h_k__law_deed_text : PySem.W.keepIn K (.ref f__law_deed_text) = true)
    (h_a__law_deeds_drawn : PySem.W.nsIn K mainGlobals "_law_deeds_drawn" = some (some (.ref f__law_deeds_drawn)))
    (h_l__law_deeds_drawn : K.lookup f__law_deeds_drawn = some ⟨oc__law_deeds_drawn, od__law_deeds_drawn, .func (PySem.W.fnOf "_law_deeds_drawn" "_law_deeds_drawn" (defArgs s__law_deeds_drawn) (defBody s__law_deeds_drawn) (defScope s__law_deeds_drawn) .none kV__law_deeds_drawn dc__law_deeds_drawn pm__law_deeds_drawn an__law_deeds_drawn cd__law_deeds_drawn ct__law_deeds_drawn), sl__law_deeds_drawn⟩)
    (h_c__law_deeds_drawn : PySem.W.codeIn K cd__law_deeds_drawn "_law_deeds_drawn" = true)
    (h_k__law_deeds_drawn : PySem.W.keepIn K (.ref f__law_deeds_drawn) = true)
    (h_a__law_plain : PySem.W.nsIn K mainGlobals "_law_plain" = some (some (.ref f__law_plain)))
    (h_l__law_plain : K.lookup f__law_plain = some ⟨oc__law_plain, od__law_plain, .func (PySem.W.fnOf "_law_plain" "_law_plain" (defArgs s__law_plain) (defBody s__law_plain) (defScope s__law_plain) .none kV__law_plain dc__law_plain pm__law_plain an__law_plain cd__law_plain ct__law_plain), sl__law_plain⟩)
    (h_c__law_plain : PySem.W.codeIn K cd__law_plain "_law_plain" = true)
    (h_k__law_plain : PySem.W.keepIn K (.ref f__law_plain) = true)
    (h_a__law_less_at_once : PySem.W.nsIn K mainGlobals "_law_less_at_once" = some (some (.ref f__law_less_at_once)))
    (h_l__law_less_at_once : K.lookup f__law_less_at_once = some ⟨oc__law_less_at_once, od__law_less_at_once, .func (PySem.W.fnOf "_law_less_at_once" "_law_less_at_once" (defArgs s__law_less_at_once) (defBody s__law_less_at_once) (defScope s__law_less_at_once) .none kV__law_less_at_once dc__law_less_at_once pm__law_less_at_once an__law_less_at_once cd__law_less_at_once ct__law_less_at_once), sl__law_less_at_once⟩)
    (h_c__law_less_at_once : PySem.W.codeIn K cd__law_less_at_once "_law_less_at_once" = true)
    (h_k__law_less_at_once : PySem.W.keepIn K (.ref f__law_less_at_once) = true)
    (h_a__law_made_process : PySem.W.nsIn K mainGlobals "_law_made_process" = some (some (.ref f__law_made_process)))
    (h_l__law_made_process : K.lookup f__law_made_process = some ⟨oc__law_made_process, od__law_made_process, .func (PySem.W.fnOf "_law_made_process" "_law_made_process" (defArgs s__law_made_process) (defBody s__law_made_process) (defScope s__law_made_process) .none kV__law_made_process dc__law_made_process pm__law_made_process an__law_made_process cd__law_made_process ct__law_made_process), sl__law_made_process⟩)
    (h_c__law_made_process : PySem.W.codeIn K cd__law_made_process "_law_made_process" = true)
    (h_k__law_made_process : PySem.W.keepIn K (.ref f__law_made_process) = true)
    (h_a__law_made : PySem.W.nsIn K mainGlobals "_law_made" = some (some (.ref f__law_made)))
    (h_l__law_made : K.lookup f__law_made = some ⟨oc__law_made, od__law_made, .func (PySem.W.fnOf "_law_made" "_law_made" (defArgs s__law_made) (defBody s__law_made) (defScope s__law_made) .none kV__law_made dc__law_made pm__law_made an__law_made cd__law_made ct__law_made), sl__law_made⟩)
    (h_c__law_made : PySem.W.codeIn K cd__law_made "_law_made" = true)
    (h_k__law_made : PySem.W.keepIn K (.ref f__law_made) = true)
    (h_a__law_may_wake : PySem.W.nsIn K mainGlobals "_law_may_wake" = some (some (.ref f__law_may_wake)))
    (h_l__law_may_wake : K.lookup f__law_may_wake = some ⟨oc__law_may_wake, od__law_may_wake, .func (PySem.W.fnOf "_law_may_wake" "_law_may_wake" (defArgs s__law_may_wake) (defBody s__law_may_wake) (defScope s__law_may_wake) .none kV__law_may_wake dc__law_may_wake pm__law_may_wake an__law_may_wake cd__law_may_wake ct__law_may_wake), sl__law_may_wake⟩)
    (h_c__law_may_wake : PySem.W.codeIn K cd__law_may_wake "_law_may_wake" = true)
    (h_k__law_may_wake : PySem.W.keepIn K (.ref f__law_may_wake) = true)
    (h_a__law_refused : PySem.W.nsIn K mainGlobals "_law_refused" = some (some (.ref f__law_refused)))
    (h_l__law_refused : K.lookup f__law_refused = some ⟨oc__law_refused, od__law_refused, .func (PySem.W.fnOf "_law_refused" "_law_refused" (defArgs s__law_refused) (defBody s__law_refused) (defScope s__law_refused) .none kV__law_refused dc__law_refused pm__law_refused an__law_refused cd__law_refused ct__law_refused), sl__law_refused⟩)
    (h_c__law_refused : PySem.W.codeIn K cd__law_refused "_law_refused" = true)
    (h_k__law_refused : PySem.W.keepIn K (.ref f__law_refused) = true)
    (h_a_law : PySem.W.nsIn K mainGlobals "law" = some (some (.ref f_law)))
    (h_l_law : K.lookup f_law = some ⟨oc_law, od_law, .func (PySem.W.fnOf "law" "law" (defArgs s_law) (defBody s_law) (defScope s_law) .none kV_law dc_law pm_law an_law cd_law ct_law), sl_law⟩)
    (h_c_law : PySem.W.codeIn K cd_law "law" = true)
    (h_k_law : PySem.W.keepIn K (.ref f_law) = true)
    (h_b_len : PySem.W.nsIn K mainGlobals "len" = some none)
    (h_b_max : PySem.W.nsIn K mainGlobals "max" = some none)
    (h_b_min : PySem.W.nsIn K mainGlobals "min" = some none)
    (h_b_int : PySem.W.nsIn K mainGlobals "int" = some none)
    (h_b_str : PySem.W.nsIn K mainGlobals "str" = some none)
    (h_b_tuple : PySem.W.nsIn K mainGlobals "tuple" = some none)
    (h_b_list : PySem.W.nsIn K mainGlobals "list" = some none)
    (h_b_bool : PySem.W.nsIn K mainGlobals "bool" = some none)
    (h_b_dict : PySem.W.nsIn K mainGlobals "dict" = some none)
    (h_b_set : PySem.W.nsIn K mainGlobals "set" = some none)
    (h_b_isinstance : PySem.W.nsIn K mainGlobals "isinstance" = some none)
    (h_b_sorted : PySem.W.nsIn K mainGlobals "sorted" = some none)
    (h_b_repr : PySem.W.nsIn K mainGlobals "repr" = some none)
    (h_b_range : PySem.W.nsIn K mainGlobals "range" = some none)
    (h_b_enumerate : PySem.W.nsIn K mainGlobals "enumerate" = some none)
    (h_b_zip : PySem.W.nsIn K mainGlobals "zip" = some none)
    (h_b_sum : PySem.W.nsIn K mainGlobals "sum" = some none)
    (h_b_all : PySem.W.nsIn K mainGlobals "all" = some none)
    (h_b_any : PySem.W.nsIn K mainGlobals "any" = some none)
    (h_sup : PySem.W.nsIn K mainGlobals "super" = some none)
    (h_topS : (P.main.scope.names.lookup ("super" : Str)).isSome = false)
    (h_opq : PySem.W.nsIn K PySem.cStatics "thirdparty.any" = some none)
    (h_tn : PySem.W.specialIn K (.builtin "object.__class__") "__get__" = some (some (.builtin "getset_descriptor.__get__")))
    (h_tt : PySem.W.takesIn K (.builtin "object.__class__") = some true) :
    ∃ a : Ad, Tx P K mg a := by
  refine ⟨⟨C_TiedError, C_NoTerm, i_NoTerm, C_NoDeed, i_NoDeed, C_NoProcess, i_NoProcess, C_NoProgram, i_NoProgram, C_NoName, i_NoName, f_is_whole, (PySem.W.fnOf "is_whole" "is_whole" (defArgs s_is_whole) (defBody s_is_whole) (defScope s_is_whole) .none kV_is_whole dc_is_whole pm_is_whole an_is_whole cd_is_whole ct_is_whole), f_is_number, (PySem.W.fnOf "is_number" "is_number" (defArgs s_is_number) (defBody s_is_number) (defScope s_is_number) .none kV_is_number dc_is_number pm_is_number an_is_number cd_is_number ct_is_number), f_is_word, (PySem.W.fnOf "is_word" "is_word" (defArgs s_is_word) (defBody s_is_word) (defScope s_is_word) .none kV_is_word dc_is_word pm_is_word an_is_word cd_is_word ct_is_word), f_is_digit, (PySem.W.fnOf "is_digit" "is_digit" (defArgs s_is_digit) (defBody s_is_digit) (defScope s_is_digit) .none kV_is_digit dc_is_digit pm_is_digit an_is_digit cd_is_digit ct_is_digit), f_are_unlike_words, (PySem.W.fnOf "are_unlike_words" "are_unlike_words" (defArgs s_are_unlike_words) (defBody s_are_unlike_words) (defScope s_are_unlike_words) .none kV_are_unlike_words dc_are_unlike_words pm_are_unlike_words an_are_unlike_words cd_are_unlike_words ct_are_unlike_words), f_ascending_words, (PySem.W.fnOf "ascending_words" "ascending_words" (defArgs s_ascending_words) (defBody s_ascending_words) (defScope s_ascending_words) .none kV_ascending_words dc_ascending_words pm_ascending_words an_ascending_words cd_ascending_words ct_ascending_words), f_ascending_numbers, (PySem.W.fnOf "ascending_numbers" "ascending_numbers" (defArgs s_ascending_numbers) (defBody s_ascending_numbers) (defScope s_ascending_numbers) .none kV_ascending_numbers dc_ascending_numbers pm_ascending_numbers an_ascending_numbers cd_ascending_numbers ct_ascending_numbers), v_SIGNS, f_word_at, (PySem.W.fnOf "word_at" "word_at" (defArgs s_word_at) (defBody s_word_at) (defScope s_word_at) .none kV_word_at dc_word_at pm_word_at an_word_at cd_word_at ct_word_at), f_plan_at, (PySem.W.fnOf "plan_at" "plan_at" (defArgs s_plan_at) (defBody s_plan_at) (defScope s_plan_at) .none kV_plan_at dc_plan_at pm_plan_at an_plan_at cd_plan_at ct_plan_at), f_text_of, (PySem.W.fnOf "text_of" "text_of" (defArgs s_text_of) (defBody s_text_of) (defScope s_text_of) .none kV_text_of dc_text_of pm_text_of an_text_of cd_text_of ct_text_of), f_leaves_of, (PySem.W.fnOf "leaves_of" "leaves_of" (defArgs s_leaves_of) (defBody s_leaves_of) (defScope s_leaves_of) .none kV_leaves_of dc_leaves_of pm_leaves_of an_leaves_of cd_leaves_of ct_leaves_of), f_stands_in, (PySem.W.fnOf "stands_in" "stands_in" (defArgs s_stands_in) (defBody s_stands_in) (defScope s_stands_in) .none kV_stands_in dc_stands_in pm_stands_in an_stands_in cd_stands_in ct_stands_in), f_plan_of, (PySem.W.fnOf "plan_of" "plan_of" (defArgs s_plan_of) (defBody s_plan_of) (defScope s_plan_of) .none kV_plan_of dc_plan_of pm_plan_of an_plan_of cd_plan_of ct_plan_of), C_Term, f_Term___init__, (PySem.W.fnOf "__init__" "Term.__init__" (defArgs s_Term___init__) (defBody s_Term___init__) (defScope s_Term___init__) .none kV_Term___init__ dc_Term___init__ pm_Term___init__ an_Term___init__ cd_Term___init__ ct_Term___init__), f_Term_choice, (PySem.W.fnOf "choice" "Term.choice" (defArgs s_Term_choice) (defBody s_Term_choice) (defScope s_Term_choice) .none kV_Term_choice dc_Term_choice pm_Term_choice an_Term_choice cd_Term_choice ct_Term_choice), p_Term_choice, f_Term___str__, (PySem.W.fnOf "__str__" "Term.__str__" (defArgs s_Term___str__) (defBody s_Term___str__) (defScope s_Term___str__) .none kV_Term___str__ dc_Term___str__ pm_Term___str__ an_Term___str__ cd_Term___str__ ct_Term___str__), f_Term_variables, (PySem.W.fnOf "variables" "Term.variables" (defArgs s_Term_variables) (defBody s_Term_variables) (defScope s_Term_variables) .none kV_Term_variables dc_Term_variables pm_Term_variables an_Term_variables cd_Term_variables ct_Term_variables), f_Term_constants, (PySem.W.fnOf "constants" "Term.constants" (defArgs s_Term_constants) (defBody s_Term_constants) (defScope s_Term_constants) .none kV_Term_constants dc_Term_constants pm_Term_constants an_Term_constants cd_Term_constants ct_Term_constants), f_Term_parts, (PySem.W.fnOf "parts" "Term.parts" (defArgs s_Term_parts) (defBody s_Term_parts) (defScope s_Term_parts) .none kV_Term_parts dc_Term_parts pm_Term_parts an_Term_parts cd_Term_parts ct_Term_parts), f_Term___eq__, (PySem.W.fnOf "__eq__" "Term.__eq__" (defArgs s_Term___eq__) (defBody s_Term___eq__) (defScope s_Term___eq__) .none kV_Term___eq__ dc_Term___eq__ pm_Term___eq__ an_Term___eq__ cd_Term___eq__ ct_Term___eq__), f_Term_within, (PySem.W.fnOf "within" "Term.within" (defArgs s_Term_within) (defBody s_Term_within) (defScope s_Term_within) .none kV_Term_within dc_Term_within pm_Term_within an_Term_within cd_Term_within ct_Term_within), f_deed_parts, (PySem.W.fnOf "deed_parts" "deed_parts" (defArgs s_deed_parts) (defBody s_deed_parts) (defScope s_deed_parts) .none kV_deed_parts dc_deed_parts pm_deed_parts an_deed_parts cd_deed_parts ct_deed_parts), C_Deed, f_Deed___init__, (PySem.W.fnOf "__init__" "Deed.__init__" (defArgs s_Deed___init__) (defBody s_Deed___init__) (defScope s_Deed___init__) .none (.ref kD_Deed___init__) dc_Deed___init__ pm_Deed___init__ an_Deed___init__ cd_Deed___init__ ct_Deed___init__), f_Deed_of, (PySem.W.fnOf "of" "Deed.of" (defArgs s_Deed_of) (defBody s_Deed_of) (defScope s_Deed_of) .none kV_Deed_of dc_Deed_of pm_Deed_of an_Deed_of cd_Deed_of ct_Deed_of), p_Deed_of, f_Deed_variable, (PySem.W.fnOf "variable" "Deed.variable" (defArgs s_Deed_variable) (defBody s_Deed_variable) (defScope s_Deed_variable) .none kV_Deed_variable dc_Deed_variable pm_Deed_variable an_Deed_variable cd_Deed_variable ct_Deed_variable), p_Deed_variable, f_Deed_term, (PySem.W.fnOf "term" "Deed.term" (defArgs s_Deed_term) (defBody s_Deed_term) (defScope s_Deed_term) .none kV_Deed_term dc_Deed_term pm_Deed_term an_Deed_term cd_Deed_term ct_Deed_term), p_Deed_term, f_Deed_late, (PySem.W.fnOf "late" "Deed.late" (defArgs s_Deed_late) (defBody s_Deed_late) (defScope s_Deed_late) .none kV_Deed_late dc_Deed_late pm_Deed_late an_Deed_late cd_Deed_late ct_Deed_late), p_Deed_late, f_Deed___str__, (PySem.W.fnOf "__str__" "Deed.__str__" (defArgs s_Deed___str__) (defBody s_Deed___str__) (defScope s_Deed___str__) .none kV_Deed___str__ dc_Deed___str__ pm_Deed___str__ an_Deed___str__ cd_Deed___str__ ct_Deed___str__), f_Deed___eq__, (PySem.W.fnOf "__eq__" "Deed.__eq__" (defArgs s_Deed___eq__) (defBody s_Deed___eq__) (defScope s_Deed___eq__) .none kV_Deed___eq__ dc_Deed___eq__ pm_Deed___eq__ an_Deed___eq__ cd_Deed___eq__ ct_Deed___eq__), f_deeds_of, (PySem.W.fnOf "deeds_of" "deeds_of" (defArgs s_deeds_of) (defBody s_deeds_of) (defScope s_deeds_of) .none kV_deeds_of dc_deeds_of pm_deeds_of an_deeds_of cd_deeds_of ct_deeds_of), C_Process, f_Process___init__, (PySem.W.fnOf "__init__" "Process.__init__" (defArgs s_Process___init__) (defBody s_Process___init__) (defScope s_Process___init__) .none kV_Process___init__ dc_Process___init__ pm_Process___init__ an_Process___init__ cd_Process___init__ ct_Process___init__), f_Process_name, (PySem.W.fnOf "name" "Process.name" (defArgs s_Process_name) (defBody s_Process_name) (defScope s_Process_name) .none kV_Process_name dc_Process_name pm_Process_name an_Process_name cd_Process_name ct_Process_name), p_Process_name, f_Process_reads, (PySem.W.fnOf "reads" "Process.reads" (defArgs s_Process_reads) (defBody s_Process_reads) (defScope s_Process_reads) .none kV_Process_reads dc_Process_reads pm_Process_reads an_Process_reads cd_Process_reads ct_Process_reads), f_Process_writes, (PySem.W.fnOf "writes" "Process.writes" (defArgs s_Process_writes) (defBody s_Process_writes) (defScope s_Process_writes) .none kV_Process_writes dc_Process_writes pm_Process_writes an_Process_writes cd_Process_writes ct_Process_writes), f_Process_written, (PySem.W.fnOf "written" "Process.written" (defArgs s_Process_written) (defBody s_Process_written) (defScope s_Process_written) .none kV_Process_written dc_Process_written pm_Process_written an_Process_written cd_Process_written ct_Process_written), f_Process_constants, (PySem.W.fnOf "constants" "Process.constants" (defArgs s_Process_constants) (defBody s_Process_constants) (defScope s_Process_constants) .none kV_Process_constants dc_Process_constants pm_Process_constants an_Process_constants cd_Process_constants ct_Process_constants), f_Process_variables, (PySem.W.fnOf "variables" "Process.variables" (defArgs s_Process_variables) (defBody s_Process_variables) (defScope s_Process_variables) .none kV_Process_variables dc_Process_variables pm_Process_variables an_Process_variables cd_Process_variables ct_Process_variables), f_Process_at_once, (PySem.W.fnOf "at_once" "Process.at_once" (defArgs s_Process_at_once) (defBody s_Process_at_once) (defScope s_Process_at_once) .none kV_Process_at_once dc_Process_at_once pm_Process_at_once an_Process_at_once cd_Process_at_once ct_Process_at_once), f_are_processes, (PySem.W.fnOf "are_processes" "are_processes" (defArgs s_are_processes) (defBody s_are_processes) (defScope s_are_processes) .none kV_are_processes dc_are_processes pm_are_processes an_are_processes cd_are_processes ct_are_processes), f_are_inputs, (PySem.W.fnOf "are_inputs" "are_inputs" (defArgs s_are_inputs) (defBody s_are_inputs) (defScope s_are_inputs) .none kV_are_inputs dc_are_inputs pm_are_inputs an_are_inputs cd_are_inputs ct_are_inputs), f_all_variables, (PySem.W.fnOf "all_variables" "all_variables" (defArgs s_all_variables) (defBody s_all_variables) (defScope s_all_variables) .none kV_all_variables dc_all_variables pm_all_variables an_all_variables cd_all_variables ct_all_variables), f_all_constants, (PySem.W.fnOf "all_constants" "all_constants" (defArgs s_all_constants) (defBody s_all_constants) (defScope s_all_constants) .none kV_all_constants dc_all_constants pm_all_constants an_all_constants cd_all_constants ct_all_constants), f_first_wrong, (PySem.W.fnOf "first_wrong" "first_wrong" (defArgs s_first_wrong) (defBody s_first_wrong) (defScope s_first_wrong) .none kV_first_wrong dc_first_wrong pm_first_wrong an_first_wrong cd_first_wrong ct_first_wrong), C_Program, f_Program___init__, (PySem.W.fnOf "__init__" "Program.__init__" (defArgs s_Program___init__) (defBody s_Program___init__) (defScope s_Program___init__) .none kV_Program___init__ dc_Program___init__ pm_Program___init__ an_Program___init__ cd_Program___init__ ct_Program___init__), f_Program_names, (PySem.W.fnOf "names" "Program.names" (defArgs s_Program_names) (defBody s_Program_names) (defScope s_Program_names) .none kV_Program_names dc_Program_names pm_Program_names an_Program_names cd_Program_names ct_Program_names), f_Program_place_of, (PySem.W.fnOf "place_of" "Program.place_of" (defArgs s_Program_place_of) (defBody s_Program_place_of) (defScope s_Program_place_of) .none kV_Program_place_of dc_Program_place_of pm_Program_place_of an_Program_place_of cd_Program_place_of ct_Program_place_of), f_Program___len__, (PySem.W.fnOf "__len__" "Program.__len__" (defArgs s_Program___len__) (defBody s_Program___len__) (defScope s_Program___len__) .none kV_Program___len__ dc_Program___len__ pm_Program___len__ an_Program___len__ cd_Program___len__ ct_Program___len__), f_waiters, (PySem.W.fnOf "waiters" "waiters" (defArgs s_waiters) (defBody s_waiters) (defScope s_waiters) .none kV_waiters dc_waiters pm_waiters an_waiters cd_waiters ct_waiters), f_woken_at_once, (PySem.W.fnOf "woken_at_once" "woken_at_once" (defArgs s_woken_at_once) (defBody s_woken_at_once) (defScope s_woken_at_once) .none kV_woken_at_once dc_woken_at_once pm_woken_at_once an_woken_at_once cd_woken_at_once ct_woken_at_once), f_woken_late, (PySem.W.fnOf "woken_late" "woken_late" (defArgs s_woken_late) (defBody s_woken_late) (defScope s_woken_late) .none kV_woken_late dc_woken_late pm_woken_late an_woken_late cd_woken_late ct_woken_late), f_woken_by, (PySem.W.fnOf "woken_by" "woken_by" (defArgs s_woken_by) (defBody s_woken_by) (defScope s_woken_by) .none kV_woken_by dc_woken_by pm_woken_by an_woken_by cd_woken_by ct_woken_by), f_wakes, (PySem.W.fnOf "wakes" "wakes" (defArgs s_wakes) (defBody s_wakes) (defScope s_wakes) .none kV_wakes dc_wakes pm_wakes an_wakes cd_wakes ct_wakes), f_wakings, (PySem.W.fnOf "wakings" "wakings" (defArgs s_wakings) (defBody s_wakings) (defScope s_wakings) .none kV_wakings dc_wakings pm_wakings an_wakings cd_wakings ct_wakings), f__law_pool, (PySem.W.fnOf "_law_pool" "_law_pool" (defArgs s__law_pool) (defBody s__law_pool) (defScope s__law_pool) .none kV__law_pool dc__law_pool pm__law_pool an__law_pool cd__law_pool ct__law_pool), f__law_take, (PySem.W.fnOf "_law_take" "_law_take" (defArgs s__law_take) (defBody s__law_take) (defScope s__law_take) .none kV__law_take dc__law_take pm__law_take an__law_take cd__law_take ct__law_take), f__law_one, (PySem.W.fnOf "_law_one" "_law_one" (defArgs s__law_one) (defBody s__law_one) (defScope s__law_one) .none kV__law_one dc__law_one pm__law_one an__law_one cd__law_one ct__law_one), f__law_turned, (PySem.W.fnOf "_law_turned" "_law_turned" (defArgs s__law_turned) (defBody s__law_turned) (defScope s__law_turned) .none kV__law_turned dc__law_turned pm__law_turned an__law_turned cd__law_turned ct__law_turned), f__law_words, (PySem.W.fnOf "_law_words" "_law_words" (defArgs s__law_words) (defBody s__law_words) (defScope s__law_words) .none kV__law_words dc__law_words pm__law_words an__law_words cd__law_words ct__law_words), f__law_tree, (PySem.W.fnOf "_law_tree" "_law_tree" (defArgs s__law_tree) (defBody s__law_tree) (defScope s__law_tree) .none kV__law_tree dc__law_tree pm__law_tree an__law_tree cd__law_tree ct__law_tree), f__law_tree_text, (PySem.W.fnOf "_law_tree_text" "_law_tree_text" (defArgs s__law_tree_text) (defBody s__law_tree_text) (defScope s__law_tree_text) .none kV__law_tree_text dc__law_tree_text pm__law_tree_text an__law_tree_text cd__law_tree_text ct__law_tree_text), f__law_deed_text, (PySem.W.fnOf "_law_deed_text" "_law_deed_text" (defArgs s__law_deed_text) (defBody s__law_deed_text) (defScope s__law_deed_text) .none kV__law_deed_text dc__law_deed_text pm__law_deed_text an__law_deed_text cd__law_deed_text ct__law_deed_text), f__law_deeds_drawn, (PySem.W.fnOf "_law_deeds_drawn" "_law_deeds_drawn" (defArgs s__law_deeds_drawn) (defBody s__law_deeds_drawn) (defScope s__law_deeds_drawn) .none kV__law_deeds_drawn dc__law_deeds_drawn pm__law_deeds_drawn an__law_deeds_drawn cd__law_deeds_drawn ct__law_deeds_drawn), f__law_plain, (PySem.W.fnOf "_law_plain" "_law_plain" (defArgs s__law_plain) (defBody s__law_plain) (defScope s__law_plain) .none kV__law_plain dc__law_plain pm__law_plain an__law_plain cd__law_plain ct__law_plain), f__law_less_at_once, (PySem.W.fnOf "_law_less_at_once" "_law_less_at_once" (defArgs s__law_less_at_once) (defBody s__law_less_at_once) (defScope s__law_less_at_once) .none kV__law_less_at_once dc__law_less_at_once pm__law_less_at_once an__law_less_at_once cd__law_less_at_once ct__law_less_at_once), f__law_made_process, (PySem.W.fnOf "_law_made_process" "_law_made_process" (defArgs s__law_made_process) (defBody s__law_made_process) (defScope s__law_made_process) .none kV__law_made_process dc__law_made_process pm__law_made_process an__law_made_process cd__law_made_process ct__law_made_process), f__law_made, (PySem.W.fnOf "_law_made" "_law_made" (defArgs s__law_made) (defBody s__law_made) (defScope s__law_made) .none kV__law_made dc__law_made pm__law_made an__law_made cd__law_made ct__law_made), f__law_may_wake, (PySem.W.fnOf "_law_may_wake" "_law_may_wake" (defArgs s__law_may_wake) (defBody s__law_may_wake) (defScope s__law_may_wake) .none kV__law_may_wake dc__law_may_wake pm__law_may_wake an__law_may_wake cd__law_may_wake ct__law_may_wake), f__law_refused, (PySem.W.fnOf "_law_refused" "_law_refused" (defArgs s__law_refused) (defBody s__law_refused) (defScope s__law_refused) .none kV__law_refused dc__law_refused pm__law_refused an__law_refused cd__law_refused ct__law_refused), f_law, (PySem.W.fnOf "law" "law" (defArgs s_law) (defBody s_law) (defScope s_law) .none kV_law dc_law pm_law an_law cd_law ct_law)⟩, ⟨?p_g_TiedError, ?p_te_NoTerm, ?p_kb_NoTerm_TiedError, ?p_e_NoTerm, ?p_te_NoDeed, ?p_kb_NoDeed_TiedError, ?p_e_NoDeed, ?p_te_NoProcess, ?p_kb_NoProcess_TiedError, ?p_e_NoProcess, ?p_te_NoProgram, ?p_kb_NoProgram_TiedError, ?p_e_NoProgram, ?p_te_NoName, ?p_kr_NoName, ?p_b_KeyError, ?p_e_NoName, ?p_v_LETTERS, ?p_v_DIGITS, ?p_v_MOST_LETTERS, ?p_is_whole, ?p_is_number, ?p_is_word, ?p_is_digit, ?p_are_unlike_words, ?p_ascending_words, ?p_ascending_numbers, ?p_v_MOST_DEPTH, ?p_v_MOST_CONSTANT, ?p_v_SIGNS, ?p_w_SIGNS, ?p_word_at, ?p_plan_at, ?p_text_of, ?p_leaves_of, ?p_stands_in, ?p_plan_of, ?p_g_Term, ?p_c_Term, ?p_kp_Term, ?p_ty_Term, ?p_mo_Term, ?p_kit_Term_NoneType, ?p_kit_Term_bool, ?p_kit_Term_int, ?p_kit_Term_str, ?p_kit_Term_list, ?p_kit_Term_tuple, ?p_kit_Term_dict, ?p_kik_Term_list, ?p_kik_Term_tuple, ?p_kik_Term_str, ?p_kit_Term, ?p_Term___init__, ?p_b_Term___init__, ?p_mk_Term, ?p_Term_choice, ?p_b_Term_choice, ?p_m_Term_choice, ?p_Term___str__, ?p_b_Term___str__, ?p_m_Term___str__, ?p_fm_Term, ?p_Term_variables, ?p_b_Term_variables, ?p_m_Term_variables, ?p_Term_constants, ?p_b_Term_constants, ?p_m_Term_constants, ?p_Term_parts, ?p_b_Term_parts, ?p_m_Term_parts, ?p_Term___eq__, ?p_b_Term___eq__, ?p_m_Term___eq__, ?p_nx_Term_int, ?p_nx_Term_tuple, ?p_nx_Term_NoneType, ?p_nx_Term_bool, ?p_nx_Term_list, ?p_nx_Term_dict, ?p_nf_Term, ?p_ne_Term, ?p_Term_within, ?p_b_Term_within, ?p_m_Term_within, ?p_no_Term_tree, ?p_v_MOST_WAITS, ?p_v_MOST_DEEDS, ?p_v_RESERVED, ?p_v_AT_ONCE, ?p_v_AT_THE_END, ?p_deed_parts, ?p_g_Deed, ?p_c_Deed, ?p_kp_Deed, ?p_ty_Deed, ?p_mo_Deed, ?p_kit_Deed_NoneType, ?p_kit_Deed_bool, ?p_kit_Deed_int, ?p_kit_Deed_str, ?p_kit_Deed_list, ?p_kit_Deed_tuple, ?p_kit_Deed_dict, ?p_kik_Deed_list, ?p_kik_Deed_tuple, ?p_kik_Deed_str, ?p_kit_Deed, ?p_Deed___init__, ?p_kb_Deed___init__, ?p_kd_Deed___init__, ?p_mk_Deed, ?p_Deed_of, ?p_b_Deed_of, ?p_m_Deed_of, ?p_Deed_variable, ?p_b_Deed_variable, ?p_p_Deed_variable, ?p_Deed_term, ?p_b_Deed_term, ?p_p_Deed_term, ?p_Deed_late, ?p_b_Deed_late, ?p_p_Deed_late, ?p_Deed___str__, ?p_b_Deed___str__, ?p_m_Deed___str__, ?p_fm_Deed, ?p_Deed___eq__, ?p_b_Deed___eq__, ?p_m_Deed___eq__, ?p_nx_Deed_int, ?p_nx_Deed_tuple, ?p_nx_Deed_NoneType, ?p_nx_Deed_bool, ?p_nx_Deed_list, ?p_nx_Deed_dict, ?p_nf_Deed, ?p_ne_Deed, ?p_no_Deed_is_late, ?p_no_Deed_source, ?p_no_Deed_target, ?p_deeds_of, ?p_g_Process, ?p_c_Process, ?p_kp_Process, ?p_ty_Process, ?p_mo_Process, ?p_kit_Process_NoneType, ?p_kit_Process_bool, ?p_kit_Process_int, ?p_kit_Process_str, ?p_kit_Process_list, ?p_kit_Process_tuple, ?p_kit_Process_dict, ?p_kik_Process_list, ?p_kik_Process_tuple, ?p_kik_Process_str, ?p_kit_Process, ?p_Process___init__, ?p_b_Process___init__, ?p_mk_Process, ?p_Process_name, ?p_b_Process_name, ?p_p_Process_name, ?p_Process_reads, ?p_b_Process_reads, ?p_m_Process_reads, ?p_Process_writes, ?p_b_Process_writes, ?p_m_Process_writes, ?p_Process_written, ?p_b_Process_written, ?p_m_Process_written, ?p_Process_constants, ?p_b_Process_constants, ?p_m_Process_constants, ?p_Process_variables, ?p_b_Process_variables, ?p_m_Process_variables, ?p_Process_at_once, ?p_b_Process_at_once, ?p_m_Process_at_once, ?p_no_Process_done, ?p_no_Process_title, ?p_no_Process_waited, ?p_v_MOST_PROCESSES, ?p_v_MOST_INPUTS, ?p_v_MOST_VARIABLES, ?p_v_MOST_CONSTANTS, ?p_v_MOST_AT_ONCE, ?p_are_processes, ?p_are_inputs, ?p_all_variables, ?p_all_constants, ?p_first_wrong, ?p_g_Program, ?p_c_Program, ?p_kp_Program, ?p_ty_Program, ?p_mo_Program, ?p_kit_Program_NoneType, ?p_kit_Program_bool, ?p_kit_Program_int, ?p_kit_Program_str, ?p_kit_Program_list, ?p_kit_Program_tuple, ?p_kit_Program_dict, ?p_kik_Program_list, ?p_kik_Program_tuple, ?p_kik_Program_str, ?p_kit_Program, ?p_Program___init__, ?p_b_Program___init__, ?p_mk_Program, ?p_Program_names, ?p_b_Program_names, ?p_m_Program_names, ?p_Program_place_of, ?p_b_Program_place_of, ?p_m_Program_place_of, ?p_Program___len__, ?p_b_Program___len__, ?p_m_Program___len__, ?p_no_Program_given, ?p_no_Program_line, ?p_no_Program_numbers, ?p_no_Program_titles, ?p_no_Program_words, ?p_waiters, ?p_woken_at_once, ?p_woken_late, ?p_woken_by, ?p_wakes, ?p_wakings, ?p__law_pool, ?p__law_take, ?p__law_one, ?p__law_turned, ?p__law_words, ?p__law_tree, ?p__law_tree_text, ?p__law_deed_text, ?p__law_deeds_drawn, ?p__law_plain, ?p__law_less_at_once, ?p__law_made_process, ?p__law_made, ?p__law_may_wake, ?p__law_refused, ?p_law, ?p_blaw, ?p_bi, ?p_tn, ?p_tt⟩⟩
  case p_g_TiedError => exact PySem.W.mg_of X G h_g_TiedError
  case p_te_NoTerm => exact h_te_NoTerm
  case p_kb_NoTerm_TiedError => exact h_kb_NoTerm_TiedError
  case p_e_NoTerm => exact ⟨PySem.W.mg_of X G h_g_NoTerm, ⟨_, _, _, _, _, _, _, _, _, _, _, _, _, _, _, h_l_NoTerm, h_r_NoTerm⟩, h_s_NoTerm, h_n_NoTerm, h_i_NoTerm, h_t_NoTerm, h_k_NoTerm, h_x_NoTerm, h_v_NoTerm, h_y_NoTerm, xfB_ok h_xf_NoTerm, ⟨_, _, _, _, _, _, _, _, _, _, _, _, _, _, _, _, _, _, _, _, _, _, _, _, _, _, _, _, _, _, _, _, _, h_fn_NoTerm, h_cd_NoTerm, h_lc_NoTerm, h_v2_NoTerm, h_fi_NoTerm, h_ln_NoTerm, h_ce_NoTerm⟩, PySem.W.mg_none_of X G h_sup, h_topS, h_se_NoTerm, h_up_NoTerm, h_opq, by decide, by decide, by decide, by decide, bd_value⟩
  case p_te_NoDeed => exact h_te_NoDeed
  case p_kb_NoDeed_TiedError => exact h_kb_NoDeed_TiedError
  case p_e_NoDeed => exact ⟨PySem.W.mg_of X G h_g_NoDeed, ⟨_, _, _, _, _, _, _, _, _, _, _, _, _, _, _, h_l_NoDeed, h_r_NoDeed⟩, h_s_NoDeed, h_n_NoDeed, h_i_NoDeed, h_t_NoDeed, h_k_NoDeed, h_x_NoDeed, h_v_NoDeed, h_y_NoDeed, xfB_ok h_xf_NoDeed, ⟨_, _, _, _, _, _, _, _, _, _, _, _, _, _, _, _, _, _, _, _, _, _, _, _, _, _, _, _, _, _, _, _, _, h_fn_NoDeed, h_cd_NoDeed, h_lc_NoDeed, h_v2_NoDeed, h_fi_NoDeed, h_ln_NoDeed, h_ce_NoDeed⟩, PySem.W.mg_none_of X G h_sup, h_topS, h_se_NoDeed, h_up_NoDeed, h_opq, by decide, by decide, by decide, by decide, bd_value⟩
  case p_te_NoProcess => exact h_te_NoProcess
  case p_kb_NoProcess_TiedError => exact h_kb_NoProcess_TiedError
  case p_e_NoProcess => exact ⟨PySem.W.mg_of X G h_g_NoProcess, ⟨_, _, _, _, _, _, _, _, _, _, _, _, _, _, _, h_l_NoProcess, h_r_NoProcess⟩, h_s_NoProcess, h_n_NoProcess, h_i_NoProcess, h_t_NoProcess, h_k_NoProcess, h_x_NoProcess, h_v_NoProcess, h_y_NoProcess, xfB_ok h_xf_NoProcess, ⟨_, _, _, _, _, _, _, _, _, _, _, _, _, _, _, _, _, _, _, _, _, _, _, _, _, _, _, _, _, _, _, _, _, h_fn_NoProcess, h_cd_NoProcess, h_lc_NoProcess, h_v2_NoProcess, h_fi_NoProcess, h_ln_NoProcess, h_ce_NoProcess⟩, PySem.W.mg_none_of X G h_sup, h_topS, h_se_NoProcess, h_up_NoProcess, h_opq, by decide, by decide, by decide, by decide, bd_part⟩
  case p_te_NoProgram => exact h_te_NoProgram
  case p_kb_NoProgram_TiedError => exact h_kb_NoProgram_TiedError
  case p_e_NoProgram => exact ⟨PySem.W.mg_of X G h_g_NoProgram, ⟨_, _, _, _, _, _, _, _, _, _, _, _, _, _, _, h_l_NoProgram, h_r_NoProgram⟩, h_s_NoProgram, h_n_NoProgram, h_i_NoProgram, h_t_NoProgram, h_k_NoProgram, h_x_NoProgram, h_v_NoProgram, h_y_NoProgram, xfB_ok h_xf_NoProgram, ⟨_, _, _, _, _, _, _, _, _, _, _, _, _, _, _, _, _, _, _, _, _, _, _, _, _, _, _, _, _, _, _, _, _, h_fn_NoProgram, h_cd_NoProgram, h_lc_NoProgram, h_v2_NoProgram, h_fi_NoProgram, h_ln_NoProgram, h_ce_NoProgram⟩, PySem.W.mg_none_of X G h_sup, h_topS, h_se_NoProgram, h_up_NoProgram, h_opq, by decide, by decide, by decide, by decide, bd_part⟩
  case p_te_NoName => exact h_te_NoName
  case p_kr_NoName => exact h_kr_NoName
  case p_b_KeyError => exact PySem.W.mg_none_of X G h_b_KeyError
  case p_e_NoName => exact ⟨root_KeyError, PySem.W.mg_of X G h_g_NoName, ⟨_, _, _, _, _, _, _, _, _, _, _, _, _, _, h_l_NoName⟩, h_s_NoName, h_n_NoName, h_i_NoName, h_t_NoName, h_k_NoName, h_x_NoName, h_v_NoName, h_y_NoName, xfB_ok h_xf_NoName, ⟨_, _, _, _, _, _, _, _, _, _, _, _, _, _, _, _, _, _, _, _, _, _, _, _, _, _, _, _, _, _, _, _, _, h_fn_NoName, h_cd_NoName, h_lc_NoName, h_v2_NoName, h_fi_NoName, h_ln_NoName, h_ce_NoName⟩, PySem.W.mg_none_of X G h_sup, h_topS, h_se_NoName, h_up_NoName, h_opq, by decide, by decide, by decide, by decide, bd_who⟩
  case p_v_LETTERS => exact ⟨_, PySem.W.mg_of X G h_v_LETTERS⟩
  case p_v_DIGITS => exact ⟨_, PySem.W.mg_of X G h_v_DIGITS⟩
  case p_v_MOST_LETTERS => exact ⟨_, PySem.W.mg_of X G h_v_MOST_LETTERS⟩
  case p_is_whole => exact ⟨PySem.W.mg_of X G h_a_is_whole, fun_mk (st := s_is_whole) h_l_is_whole h_c_is_whole h_k_is_whole, (fun_mk (st := s_is_whole) h_l_is_whole h_c_is_whole h_k_is_whole).binds (ps := ["value"]) fun _ _ _ _ _ _ us hl => match us, hl with | [_], _ => rfl⟩
  case p_is_number => exact ⟨PySem.W.mg_of X G h_a_is_number, fun_mk (st := s_is_number) h_l_is_number h_c_is_number h_k_is_number, (fun_mk (st := s_is_number) h_l_is_number h_c_is_number h_k_is_number).binds (ps := ["value", "low", "high"]) fun _ _ _ _ _ _ us hl => match us, hl with | [_, _, _], _ => rfl⟩
  case p_is_word => exact ⟨PySem.W.mg_of X G h_a_is_word, fun_mk (st := s_is_word) h_l_is_word h_c_is_word h_k_is_word, (fun_mk (st := s_is_word) h_l_is_word h_c_is_word h_k_is_word).binds (ps := ["value"]) fun _ _ _ _ _ _ us hl => match us, hl with | [_], _ => rfl⟩
  case p_is_digit => exact ⟨PySem.W.mg_of X G h_a_is_digit, fun_mk (st := s_is_digit) h_l_is_digit h_c_is_digit h_k_is_digit, (fun_mk (st := s_is_digit) h_l_is_digit h_c_is_digit h_k_is_digit).binds (ps := ["value"]) fun _ _ _ _ _ _ us hl => match us, hl with | [_], _ => rfl⟩
  case p_are_unlike_words => exact ⟨PySem.W.mg_of X G h_a_are_unlike_words, fun_mk (st := s_are_unlike_words) h_l_are_unlike_words h_c_are_unlike_words h_k_are_unlike_words, (fun_mk (st := s_are_unlike_words) h_l_are_unlike_words h_c_are_unlike_words h_k_are_unlike_words).binds (ps := ["value", "low", "high"]) fun _ _ _ _ _ _ us hl => match us, hl with | [_, _, _], _ => rfl⟩
  case p_ascending_words => exact ⟨PySem.W.mg_of X G h_a_ascending_words, fun_mk (st := s_ascending_words) h_l_ascending_words h_c_ascending_words h_k_ascending_words, (fun_mk (st := s_ascending_words) h_l_ascending_words h_c_ascending_words h_k_ascending_words).binds (ps := ["words"]) fun _ _ _ _ _ _ us hl => match us, hl with | [_], _ => rfl⟩
  case p_ascending_numbers => exact ⟨PySem.W.mg_of X G h_a_ascending_numbers, fun_mk (st := s_ascending_numbers) h_l_ascending_numbers h_c_ascending_numbers h_k_ascending_numbers, (fun_mk (st := s_ascending_numbers) h_l_ascending_numbers h_c_ascending_numbers h_k_ascending_numbers).binds (ps := ["numbers"]) fun _ _ _ _ _ _ us hl => match us, hl with | [_], _ => rfl⟩
  case p_v_MOST_DEPTH => exact ⟨_, PySem.W.mg_of X G h_v_MOST_DEPTH⟩
  case p_v_MOST_CONSTANT => exact ⟨_, PySem.W.mg_of X G h_v_MOST_CONSTANT⟩
  case p_v_SIGNS => exact PySem.W.mg_of X G h_v_SIGNS
  case p_w_SIGNS => exact fun H => .inr ⟨_, _, _, h_w_SIGNS, rfl, rfl, by show 5 ≤ sizeLine; decide, by repeat (first | exact .nil | refine .cons ⟨_, rfl⟩ ?_)⟩
  case p_word_at => exact ⟨PySem.W.mg_of X G h_a_word_at, fun_mk (st := s_word_at) h_l_word_at h_c_word_at h_k_word_at, (fun_mk (st := s_word_at) h_l_word_at h_c_word_at h_k_word_at).binds (ps := ["text", "at"]) fun _ _ _ _ _ _ us hl => match us, hl with | [_, _], _ => rfl⟩
  case p_plan_at => exact ⟨PySem.W.mg_of X G h_a_plan_at, fun_mk (st := s_plan_at) h_l_plan_at h_c_plan_at h_k_plan_at, (fun_mk (st := s_plan_at) h_l_plan_at h_c_plan_at h_k_plan_at).binds (ps := ["text", "at", "deep"]) fun _ _ _ _ _ _ us hl => match us, hl with | [_, _, _], _ => rfl⟩
  case p_text_of => exact ⟨PySem.W.mg_of X G h_a_text_of, fun_mk (st := s_text_of) h_l_text_of h_c_text_of h_k_text_of, (fun_mk (st := s_text_of) h_l_text_of h_c_text_of h_k_text_of).binds (ps := ["plan"]) fun _ _ _ _ _ _ us hl => match us, hl with | [_], _ => rfl⟩
  case p_leaves_of => exact ⟨PySem.W.mg_of X G h_a_leaves_of, fun_mk (st := s_leaves_of) h_l_leaves_of h_c_leaves_of h_k_leaves_of, (fun_mk (st := s_leaves_of) h_l_leaves_of h_c_leaves_of h_k_leaves_of).binds (ps := ["plan"]) fun _ _ _ _ _ _ us hl => match us, hl with | [_], _ => rfl⟩
  case p_stands_in => exact ⟨PySem.W.mg_of X G h_a_stands_in, fun_mk (st := s_stands_in) h_l_stands_in h_c_stands_in h_k_stands_in, (fun_mk (st := s_stands_in) h_l_stands_in h_c_stands_in h_k_stands_in).binds (ps := ["plan", "whole"]) fun _ _ _ _ _ _ us hl => match us, hl with | [_, _], _ => rfl⟩
  case p_plan_of => exact ⟨PySem.W.mg_of X G h_a_plan_of, fun_mk (st := s_plan_of) h_l_plan_of h_c_plan_of h_k_plan_of, (fun_mk (st := s_plan_of) h_l_plan_of h_c_plan_of h_k_plan_of).binds (ps := ["value"]) fun _ _ _ _ _ _ us hl => match us, hl with | [_], _ => rfl⟩
  case p_g_Term => exact PySem.W.mg_of X G h_g_Term
  case p_c_Term => exact ⟨h_pg_Term, h_hd_Term, h_po_Term, h_sa_Term⟩
  case p_kp_Term => exact h_kp_Term
  case p_ty_Term => exact h_ty_Term
  case p_mo_Term => exact h_mo_Term
  case p_kit_Term_NoneType => exact h_kit_Term_NoneType
  case p_kit_Term_bool => exact h_kit_Term_bool
  case p_kit_Term_int => exact h_kit_Term_int
  case p_kit_Term_str => exact h_kit_Term_str
  case p_kit_Term_list => exact h_kit_Term_list
  case p_kit_Term_tuple => exact h_kit_Term_tuple
  case p_kit_Term_dict => exact h_kit_Term_dict
  case p_kik_Term_list => exact h_kik_Term_list
  case p_kik_Term_tuple => exact h_kik_Term_tuple
  case p_kik_Term_str => exact h_kik_Term_str
  case p_kit_Term => exact h_kit_Term
  case p_Term___init__ => exact fun_mk (st := s_Term___init__) h_l_Term___init__ h_c_Term___init__ h_k_Term___init__
  case p_b_Term___init__ => exact (fun_mk (st := s_Term___init__) h_l_Term___init__ h_c_Term___init__ h_k_Term___init__).binds (ps := ["self", "value"]) fun _ _ _ _ _ _ us hl => match us, hl with | [_, _], _ => rfl
  case p_mk_Term => exact ⟨h_mk_Term, h_a_Term___init__, h_i_Term___init__, h_kp_Term⟩
  case p_Term_choice => exact fun_mk (st := s_Term_choice) h_l_Term_choice h_c_Term_choice h_k_Term_choice
  case p_b_Term_choice => exact (fun_mk (st := s_Term_choice) h_l_Term_choice h_c_Term_choice h_k_Term_choice).binds (ps := ["one", "other", "same", "unlike"]) fun _ _ _ _ _ _ us hl => match us, hl with | [_, _, _, _], _ => rfl
  case p_m_Term_choice => exact ⟨h_r1_Term_choice, h_r2_Term_choice, h_r3_Term_choice, ⟨_, h_r4_Term_choice⟩, h_k_Term_choice⟩
  case p_Term___str__ => exact fun_mk (st := s_Term___str__) h_l_Term___str__ h_c_Term___str__ h_k_Term___str__
  case p_b_Term___str__ => exact (fun_mk (st := s_Term___str__) h_l_Term___str__ h_c_Term___str__ h_k_Term___str__).binds (ps := ["self"]) fun _ _ _ _ _ _ us hl => match us, hl with | [_], _ => rfl
  case p_m_Term___str__ => exact ⟨h_a_Term___str__, h_i_Term___str__, h_k_Term___str__⟩
  case p_fm_Term => exact h_fm_Term
  case p_Term_variables => exact fun_mk (st := s_Term_variables) h_l_Term_variables h_c_Term_variables h_k_Term_variables
  case p_b_Term_variables => exact (fun_mk (st := s_Term_variables) h_l_Term_variables h_c_Term_variables h_k_Term_variables).binds (ps := ["self"]) fun _ _ _ _ _ _ us hl => match us, hl with | [_], _ => rfl
  case p_m_Term_variables => exact ⟨h_a_Term_variables, h_i_Term_variables, h_k_Term_variables⟩
  case p_Term_constants => exact fun_mk (st := s_Term_constants) h_l_Term_constants h_c_Term_constants h_k_Term_constants
  case p_b_Term_constants => exact (fun_mk (st := s_Term_constants) h_l_Term_constants h_c_Term_constants h_k_Term_constants).binds (ps := ["self"]) fun _ _ _ _ _ _ us hl => match us, hl with | [_], _ => rfl
  case p_m_Term_constants => exact ⟨h_a_Term_constants, h_i_Term_constants, h_k_Term_constants⟩
  case p_Term_parts => exact fun_mk (st := s_Term_parts) h_l_Term_parts h_c_Term_parts h_k_Term_parts
  case p_b_Term_parts => exact (fun_mk (st := s_Term_parts) h_l_Term_parts h_c_Term_parts h_k_Term_parts).binds (ps := ["self"]) fun _ _ _ _ _ _ us hl => match us, hl with | [_], _ => rfl
  case p_m_Term_parts => exact ⟨h_a_Term_parts, h_i_Term_parts, h_k_Term_parts⟩
  case p_Term___eq__ => exact fun_mk (st := s_Term___eq__) h_l_Term___eq__ h_c_Term___eq__ h_k_Term___eq__
  case p_b_Term___eq__ => exact (fun_mk (st := s_Term___eq__) h_l_Term___eq__ h_c_Term___eq__ h_k_Term___eq__).binds (ps := ["self", "other"]) fun _ _ _ _ _ _ us hl => match us, hl with | [_, _], _ => rfl
  case p_m_Term___eq__ => exact ⟨h_a_Term___eq__, h_i_Term___eq__, h_k_Term___eq__⟩
  case p_nx_Term_int => exact h_nx_Term_int
  case p_nx_Term_tuple => exact h_nx_Term_tuple
  case p_nx_Term_NoneType => exact h_nx_Term_NoneType
  case p_nx_Term_bool => exact h_nx_Term_bool
  case p_nx_Term_list => exact h_nx_Term_list
  case p_nx_Term_dict => exact h_nx_Term_dict
  case p_nf_Term => exact h_nf_Term
  case p_ne_Term => exact h_ne_Term
  case p_Term_within => exact fun_mk (st := s_Term_within) h_l_Term_within h_c_Term_within h_k_Term_within
  case p_b_Term_within => exact (fun_mk (st := s_Term_within) h_l_Term_within h_c_Term_within h_k_Term_within).binds (ps := ["self", "other"]) fun _ _ _ _ _ _ us hl => match us, hl with | [_, _], _ => rfl
  case p_m_Term_within => exact ⟨h_a_Term_within, h_i_Term_within, h_k_Term_within⟩
  case p_no_Term_tree => exact h_no_Term_tree
  case p_v_MOST_WAITS => exact ⟨_, PySem.W.mg_of X G h_v_MOST_WAITS⟩
  case p_v_MOST_DEEDS => exact ⟨_, PySem.W.mg_of X G h_v_MOST_DEEDS⟩
  case p_v_RESERVED => exact ⟨_, PySem.W.mg_of X G h_v_RESERVED⟩
  case p_v_AT_ONCE => exact ⟨_, PySem.W.mg_of X G h_v_AT_ONCE⟩
  case p_v_AT_THE_END => exact ⟨_, PySem.W.mg_of X G h_v_AT_THE_END⟩
  case p_deed_parts => exact ⟨PySem.W.mg_of X G h_a_deed_parts, fun_mk (st := s_deed_parts) h_l_deed_parts h_c_deed_parts h_k_deed_parts, (fun_mk (st := s_deed_parts) h_l_deed_parts h_c_deed_parts h_k_deed_parts).binds (ps := ["text"]) fun _ _ _ _ _ _ us hl => match us, hl with | [_], _ => rfl⟩
  case p_g_Deed => exact PySem.W.mg_of X G h_g_Deed
  case p_c_Deed => exact ⟨h_pg_Deed, h_hd_Deed, h_po_Deed, h_sa_Deed⟩
  case p_kp_Deed => exact h_kp_Deed
  case p_ty_Deed => exact h_ty_Deed
  case p_mo_Deed => exact h_mo_Deed
  case p_kit_Deed_NoneType => exact h_kit_Deed_NoneType
  case p_kit_Deed_bool => exact h_kit_Deed_bool
  case p_kit_Deed_int => exact h_kit_Deed_int
  case p_kit_Deed_str => exact h_kit_Deed_str
  case p_kit_Deed_list => exact h_kit_Deed_list
  case p_kit_Deed_tuple => exact h_kit_Deed_tuple
  case p_kit_Deed_dict => exact h_kit_Deed_dict
  case p_kik_Deed_list => exact h_kik_Deed_list
  case p_kik_Deed_tuple => exact h_kik_Deed_tuple
  case p_kik_Deed_str => exact h_kik_Deed_str
  case p_kit_Deed => exact h_kit_Deed
  case p_Deed___init__ => exact fun_mk (st := s_Deed___init__) h_l_Deed___init__ h_c_Deed___init__ h_k_Deed___init__
  case p_kb_Deed___init__ => exact (by obtain ⟨mv, h⟩ := (show FunD K "__init__" "Deed.__init__" (defArgs s_Deed___init__) (defBody s_Deed___init__) (defScope s_Deed___init__) [] [("late", .bl false)] f_Deed___init__ (PySem.W.fnOf "__init__" "Deed.__init__" (defArgs s_Deed___init__) (defBody s_Deed___init__) (defScope s_Deed___init__) .none (.ref kD_Deed___init__) dc_Deed___init__ pm_Deed___init__ an_Deed___init__ cd_Deed___init__ ct_Deed___init__) from ⟨⟨_, _, _, _, _, _, _, _, _, _, rfl, h_l_Deed___init__, h_c_Deed___init__, .inl ⟨rfl, rfl⟩, .inr ⟨_, rfl, fun q hq => by obtain rfl := List.mem_singleton.mp hq; exact ⟨_, h_kw_Deed___init___late, rfl⟩⟩⟩, h_k_Deed___init__⟩).kbinds0 (ps := ["self", "variable", "term", "late"]) 3 ["late"] [] (fun us _ ws => us ++ ws) (by decide) (fun q hq => nomatch hq) (fun r1 r2 r3 => r1.append r3) (fun _ _ _ _ _ _ us mv ws l1 l2 l3 => match us, ws, l1, l3 with | [_, _, _], [_], _, _ => rfl); exact h)
  case p_kd_Deed___init__ => exact ((show FunD K "__init__" "Deed.__init__" (defArgs s_Deed___init__) (defBody s_Deed___init__) (defScope s_Deed___init__) [] [("late", .bl false)] f_Deed___init__ (PySem.W.fnOf "__init__" "Deed.__init__" (defArgs s_Deed___init__) (defBody s_Deed___init__) (defScope s_Deed___init__) .none (.ref kD_Deed___init__) dc_Deed___init__ pm_Deed___init__ an_Deed___init__ cd_Deed___init__ ct_Deed___init__) from ⟨⟨_, _, _, _, _, _, _, _, _, _, rfl, h_l_Deed___init__, h_c_Deed___init__, .inl ⟨rfl, rfl⟩, .inr ⟨_, rfl, fun q hq => by obtain rfl := List.mem_singleton.mp hq; exact ⟨_, h_kw_Deed___init___late, rfl⟩⟩⟩, h_k_Deed___init__⟩).binds0 (ps := ["self", "variable", "term", "late"]) 3 (by decide) (by rfl) (fun _ _ _ _ _ _ us ks l1 l2 => match us, ks, l1, l2 with | [_, _, _], [_], _, _ => ⟨_, _, _, _, _, _, rfl, rfl, rfl⟩))
  case p_mk_Deed => exact ⟨h_mk_Deed, h_a_Deed___init__, h_i_Deed___init__, h_kp_Deed⟩
  case p_Deed_of => exact fun_mk (st := s_Deed_of) h_l_Deed_of h_c_Deed_of h_k_Deed_of
  case p_b_Deed_of => exact (fun_mk (st := s_Deed_of) h_l_Deed_of h_c_Deed_of h_k_Deed_of).binds (ps := ["text"]) fun _ _ _ _ _ _ us hl => match us, hl with | [_], _ => rfl
  case p_m_Deed_of => exact ⟨h_r1_Deed_of, h_r2_Deed_of, h_r3_Deed_of, ⟨_, h_r4_Deed_of⟩, h_k_Deed_of⟩
  case p_Deed_variable => exact fun_mk (st := s_Deed_variable) h_l_Deed_variable h_c_Deed_variable h_k_Deed_variable
  case p_b_Deed_variable => exact (fun_mk (st := s_Deed_variable) h_l_Deed_variable h_c_Deed_variable h_k_Deed_variable).binds (ps := ["self"]) fun _ _ _ _ _ _ us hl => match us, hl with | [_], _ => rfl
  case p_p_Deed_variable => exact ⟨h_q1_Deed_variable, h_q2_Deed_variable, h_q3_Deed_variable, ⟨_, h_q4_Deed_variable⟩⟩
  case p_Deed_term => exact fun_mk (st := s_Deed_term) h_l_Deed_term h_c_Deed_term h_k_Deed_term
  case p_b_Deed_term => exact (fun_mk (st := s_Deed_term) h_l_Deed_term h_c_Deed_term h_k_Deed_term).binds (ps := ["self"]) fun _ _ _ _ _ _ us hl => match us, hl with | [_], _ => rfl
  case p_p_Deed_term => exact ⟨h_q1_Deed_term, h_q2_Deed_term, h_q3_Deed_term, ⟨_, h_q4_Deed_term⟩⟩
  case p_Deed_late => exact fun_mk (st := s_Deed_late) h_l_Deed_late h_c_Deed_late h_k_Deed_late
  case p_b_Deed_late => exact (fun_mk (st := s_Deed_late) h_l_Deed_late h_c_Deed_late h_k_Deed_late).binds (ps := ["self"]) fun _ _ _ _ _ _ us hl => match us, hl with | [_], _ => rfl
  case p_p_Deed_late => exact ⟨h_q1_Deed_late, h_q2_Deed_late, h_q3_Deed_late, ⟨_, h_q4_Deed_late⟩⟩
  case p_Deed___str__ => exact fun_mk (st := s_Deed___str__) h_l_Deed___str__ h_c_Deed___str__ h_k_Deed___str__
  case p_b_Deed___str__ => exact (fun_mk (st := s_Deed___str__) h_l_Deed___str__ h_c_Deed___str__ h_k_Deed___str__).binds (ps := ["self"]) fun _ _ _ _ _ _ us hl => match us, hl with | [_], _ => rfl
  case p_m_Deed___str__ => exact ⟨h_a_Deed___str__, h_i_Deed___str__, h_k_Deed___str__⟩
  case p_fm_Deed => exact h_fm_Deed
  case p_Deed___eq__ => exact fun_mk (st := s_Deed___eq__) h_l_Deed___eq__ h_c_Deed___eq__ h_k_Deed___eq__
  case p_b_Deed___eq__ => exact (fun_mk (st := s_Deed___eq__) h_l_Deed___eq__ h_c_Deed___eq__ h_k_Deed___eq__).binds (ps := ["self", "other"]) fun _ _ _ _ _ _ us hl => match us, hl with | [_, _], _ => rfl
  case p_m_Deed___eq__ => exact ⟨h_a_Deed___eq__, h_i_Deed___eq__, h_k_Deed___eq__⟩
  case p_nx_Deed_int => exact h_nx_Deed_int
  case p_nx_Deed_tuple => exact h_nx_Deed_tuple
  case p_nx_Deed_NoneType => exact h_nx_Deed_NoneType
  case p_nx_Deed_bool => exact h_nx_Deed_bool
  case p_nx_Deed_list => exact h_nx_Deed_list
  case p_nx_Deed_dict => exact h_nx_Deed_dict
  case p_nf_Deed => exact h_nf_Deed
  case p_ne_Deed => exact h_ne_Deed
  case p_no_Deed_is_late => exact h_no_Deed_is_late
  case p_no_Deed_source => exact h_no_Deed_source
  case p_no_Deed_target => exact h_no_Deed_target
  case p_deeds_of => exact ⟨PySem.W.mg_of X G h_a_deeds_of, fun_mk (st := s_deeds_of) h_l_deeds_of h_c_deeds_of h_k_deeds_of, (fun_mk (st := s_deeds_of) h_l_deeds_of h_c_deeds_of h_k_deeds_of).binds (ps := ["values"]) fun _ _ _ _ _ _ us hl => match us, hl with | [_], _ => rfl⟩
  case p_g_Process => exact PySem.W.mg_of X G h_g_Process
  case p_c_Process => exact ⟨h_pg_Process, h_hd_Process, h_po_Process, h_sa_Process⟩
  case p_kp_Process => exact h_kp_Process
  case p_ty_Process => exact h_ty_Process
  case p_mo_Process => exact h_mo_Process
  case p_kit_Process_NoneType => exact h_kit_Process_NoneType
  case p_kit_Process_bool => exact h_kit_Process_bool
  case p_kit_Process_int => exact h_kit_Process_int
  case p_kit_Process_str => exact h_kit_Process_str
  case p_kit_Process_list => exact h_kit_Process_list
  case p_kit_Process_tuple => exact h_kit_Process_tuple
  case p_kit_Process_dict => exact h_kit_Process_dict
  case p_kik_Process_list => exact h_kik_Process_list
  case p_kik_Process_tuple => exact h_kik_Process_tuple
  case p_kik_Process_str => exact h_kik_Process_str
  case p_kit_Process => exact h_kit_Process
  case p_Process___init__ => exact fun_mk (st := s_Process___init__) h_l_Process___init__ h_c_Process___init__ h_k_Process___init__
  case p_b_Process___init__ => exact (fun_mk (st := s_Process___init__) h_l_Process___init__ h_c_Process___init__ h_k_Process___init__).binds (ps := ["self", "name", "waits", "deeds"]) fun _ _ _ _ _ _ us hl => match us, hl with | [_, _, _, _], _ => rfl
  case p_mk_Process => exact ⟨h_mk_Process, h_a_Process___init__, h_i_Process___init__, h_kp_Process⟩
  case p_Process_name => exact fun_mk (st := s_Process_name) h_l_Process_name h_c_Process_name h_k_Process_name
  case p_b_Process_name => exact (fun_mk (st := s_Process_name) h_l_Process_name h_c_Process_name h_k_Process_name).binds (ps := ["self"]) fun _ _ _ _ _ _ us hl => match us, hl with | [_], _ => rfl
  case p_p_Process_name => exact ⟨h_q1_Process_name, h_q2_Process_name, h_q3_Process_name, ⟨_, h_q4_Process_name⟩⟩
  case p_Process_reads => exact fun_mk (st := s_Process_reads) h_l_Process_reads h_c_Process_reads h_k_Process_reads
  case p_b_Process_reads => exact (fun_mk (st := s_Process_reads) h_l_Process_reads h_c_Process_reads h_k_Process_reads).binds (ps := ["self"]) fun _ _ _ _ _ _ us hl => match us, hl with | [_], _ => rfl
  case p_m_Process_reads => exact ⟨h_a_Process_reads, h_i_Process_reads, h_k_Process_reads⟩
  case p_Process_writes => exact fun_mk (st := s_Process_writes) h_l_Process_writes h_c_Process_writes h_k_Process_writes
  case p_b_Process_writes => exact (fun_mk (st := s_Process_writes) h_l_Process_writes h_c_Process_writes h_k_Process_writes).binds (ps := ["self"]) fun _ _ _ _ _ _ us hl => match us, hl with | [_], _ => rfl
  case p_m_Process_writes => exact ⟨h_a_Process_writes, h_i_Process_writes, h_k_Process_writes⟩
  case p_Process_written => exact fun_mk (st := s_Process_written) h_l_Process_written h_c_Process_written h_k_Process_written
  case p_b_Process_written => exact (fun_mk (st := s_Process_written) h_l_Process_written h_c_Process_written h_k_Process_written).binds (ps := ["self", "late"]) fun _ _ _ _ _ _ us hl => match us, hl with | [_, _], _ => rfl
  case p_m_Process_written => exact ⟨h_a_Process_written, h_i_Process_written, h_k_Process_written⟩
  case p_Process_constants => exact fun_mk (st := s_Process_constants) h_l_Process_constants h_c_Process_constants h_k_Process_constants
  case p_b_Process_constants => exact (fun_mk (st := s_Process_constants) h_l_Process_constants h_c_Process_constants h_k_Process_constants).binds (ps := ["self"]) fun _ _ _ _ _ _ us hl => match us, hl with | [_], _ => rfl
  case p_m_Process_constants => exact ⟨h_a_Process_constants, h_i_Process_constants, h_k_Process_constants⟩
  case p_Process_variables => exact fun_mk (st := s_Process_variables) h_l_Process_variables h_c_Process_variables h_k_Process_variables
  case p_b_Process_variables => exact (fun_mk (st := s_Process_variables) h_l_Process_variables h_c_Process_variables h_k_Process_variables).binds (ps := ["self"]) fun _ _ _ _ _ _ us hl => match us, hl with | [_], _ => rfl
  case p_m_Process_variables => exact ⟨h_a_Process_variables, h_i_Process_variables, h_k_Process_variables⟩
  case p_Process_at_once => exact fun_mk (st := s_Process_at_once) h_l_Process_at_once h_c_Process_at_once h_k_Process_at_once
  case p_b_Process_at_once => exact (fun_mk (st := s_Process_at_once) h_l_Process_at_once h_c_Process_at_once h_k_Process_at_once).binds (ps := ["self"]) fun _ _ _ _ _ _ us hl => match us, hl with | [_], _ => rfl
  case p_m_Process_at_once => exact ⟨h_a_Process_at_once, h_i_Process_at_once, h_k_Process_at_once⟩
  case p_no_Process_done => exact h_no_Process_done
  case p_no_Process_title => exact h_no_Process_title
  case p_no_Process_waited => exact h_no_Process_waited
  case p_v_MOST_PROCESSES => exact ⟨_, PySem.W.mg_of X G h_v_MOST_PROCESSES⟩
  case p_v_MOST_INPUTS => exact ⟨_, PySem.W.mg_of X G h_v_MOST_INPUTS⟩
  case p_v_MOST_VARIABLES => exact ⟨_, PySem.W.mg_of X G h_v_MOST_VARIABLES⟩
  case p_v_MOST_CONSTANTS => exact ⟨_, PySem.W.mg_of X G h_v_MOST_CONSTANTS⟩
  case p_v_MOST_AT_ONCE => exact ⟨_, PySem.W.mg_of X G h_v_MOST_AT_ONCE⟩
  case p_are_processes => exact ⟨PySem.W.mg_of X G h_a_are_processes, fun_mk (st := s_are_processes) h_l_are_processes h_c_are_processes h_k_are_processes, (fun_mk (st := s_are_processes) h_l_are_processes h_c_are_processes h_k_are_processes).binds (ps := ["value"]) fun _ _ _ _ _ _ us hl => match us, hl with | [_], _ => rfl⟩
  case p_are_inputs => exact ⟨PySem.W.mg_of X G h_a_are_inputs, fun_mk (st := s_are_inputs) h_l_are_inputs h_c_are_inputs h_k_are_inputs, (fun_mk (st := s_are_inputs) h_l_are_inputs h_c_are_inputs h_k_are_inputs).binds (ps := ["value", "processes"]) fun _ _ _ _ _ _ us hl => match us, hl with | [_, _], _ => rfl⟩
  case p_all_variables => exact ⟨PySem.W.mg_of X G h_a_all_variables, fun_mk (st := s_all_variables) h_l_all_variables h_c_all_variables h_k_all_variables, (fun_mk (st := s_all_variables) h_l_all_variables h_c_all_variables h_k_all_variables).binds (ps := ["processes", "inputs"]) fun _ _ _ _ _ _ us hl => match us, hl with | [_, _], _ => rfl⟩
  case p_all_constants => exact ⟨PySem.W.mg_of X G h_a_all_constants, fun_mk (st := s_all_constants) h_l_all_constants h_c_all_constants h_k_all_constants, (fun_mk (st := s_all_constants) h_l_all_constants h_c_all_constants h_k_all_constants).binds (ps := ["processes"]) fun _ _ _ _ _ _ us hl => match us, hl with | [_], _ => rfl⟩
  case p_first_wrong => exact ⟨PySem.W.mg_of X G h_a_first_wrong, fun_mk (st := s_first_wrong) h_l_first_wrong h_c_first_wrong h_k_first_wrong, (fun_mk (st := s_first_wrong) h_l_first_wrong h_c_first_wrong h_k_first_wrong).binds (ps := ["processes", "inputs"]) fun _ _ _ _ _ _ us hl => match us, hl with | [_, _], _ => rfl⟩
  case p_g_Program => exact PySem.W.mg_of X G h_g_Program
  case p_c_Program => exact ⟨h_pg_Program, h_hd_Program, h_po_Program, h_sa_Program⟩
  case p_kp_Program => exact h_kp_Program
  case p_ty_Program => exact h_ty_Program
  case p_mo_Program => exact h_mo_Program
  case p_kit_Program_NoneType => exact h_kit_Program_NoneType
  case p_kit_Program_bool => exact h_kit_Program_bool
  case p_kit_Program_int => exact h_kit_Program_int
  case p_kit_Program_str => exact h_kit_Program_str
  case p_kit_Program_list => exact h_kit_Program_list
  case p_kit_Program_tuple => exact h_kit_Program_tuple
  case p_kit_Program_dict => exact h_kit_Program_dict
  case p_kik_Program_list => exact h_kik_Program_list
  case p_kik_Program_tuple => exact h_kik_Program_tuple
  case p_kik_Program_str => exact h_kik_Program_str
  case p_kit_Program => exact h_kit_Program
  case p_Program___init__ => exact fun_mk (st := s_Program___init__) h_l_Program___init__ h_c_Program___init__ h_k_Program___init__
  case p_b_Program___init__ => exact (fun_mk (st := s_Program___init__) h_l_Program___init__ h_c_Program___init__ h_k_Program___init__).binds (ps := ["self", "processes", "inputs"]) fun _ _ _ _ _ _ us hl => match us, hl with | [_, _, _], _ => rfl
  case p_mk_Program => exact ⟨h_mk_Program, h_a_Program___init__, h_i_Program___init__, h_kp_Program⟩
  case p_Program_names => exact fun_mk (st := s_Program_names) h_l_Program_names h_c_Program_names h_k_Program_names
  case p_b_Program_names => exact (fun_mk (st := s_Program_names) h_l_Program_names h_c_Program_names h_k_Program_names).binds (ps := ["self"]) fun _ _ _ _ _ _ us hl => match us, hl with | [_], _ => rfl
  case p_m_Program_names => exact ⟨h_a_Program_names, h_i_Program_names, h_k_Program_names⟩
  case p_Program_place_of => exact fun_mk (st := s_Program_place_of) h_l_Program_place_of h_c_Program_place_of h_k_Program_place_of
  case p_b_Program_place_of => exact (fun_mk (st := s_Program_place_of) h_l_Program_place_of h_c_Program_place_of h_k_Program_place_of).binds (ps := ["self", "name"]) fun _ _ _ _ _ _ us hl => match us, hl with | [_, _], _ => rfl
  case p_m_Program_place_of => exact ⟨h_a_Program_place_of, h_i_Program_place_of, h_k_Program_place_of⟩
  case p_Program___len__ => exact fun_mk (st := s_Program___len__) h_l_Program___len__ h_c_Program___len__ h_k_Program___len__
  case p_b_Program___len__ => exact (fun_mk (st := s_Program___len__) h_l_Program___len__ h_c_Program___len__ h_k_Program___len__).binds (ps := ["self"]) fun _ _ _ _ _ _ us hl => match us, hl with | [_], _ => rfl
  case p_m_Program___len__ => exact ⟨h_a_Program___len__, h_i_Program___len__, h_k_Program___len__⟩
  case p_no_Program_given => exact h_no_Program_given
  case p_no_Program_line => exact h_no_Program_line
  case p_no_Program_numbers => exact h_no_Program_numbers
  case p_no_Program_titles => exact h_no_Program_titles
  case p_no_Program_words => exact h_no_Program_words
  case p_waiters => exact ⟨PySem.W.mg_of X G h_a_waiters, fun_mk (st := s_waiters) h_l_waiters h_c_waiters h_k_waiters, (fun_mk (st := s_waiters) h_l_waiters h_c_waiters h_k_waiters).binds (ps := ["program", "variable"]) fun _ _ _ _ _ _ us hl => match us, hl with | [_, _], _ => rfl⟩
  case p_woken_at_once => exact ⟨PySem.W.mg_of X G h_a_woken_at_once, fun_mk (st := s_woken_at_once) h_l_woken_at_once h_c_woken_at_once h_k_woken_at_once, (fun_mk (st := s_woken_at_once) h_l_woken_at_once h_c_woken_at_once h_k_woken_at_once).binds (ps := ["program", "place"]) fun _ _ _ _ _ _ us hl => match us, hl with | [_, _], _ => rfl⟩
  case p_woken_late => exact ⟨PySem.W.mg_of X G h_a_woken_late, fun_mk (st := s_woken_late) h_l_woken_late h_c_woken_late h_k_woken_late, (fun_mk (st := s_woken_late) h_l_woken_late h_c_woken_late h_k_woken_late).binds (ps := ["program", "place"]) fun _ _ _ _ _ _ us hl => match us, hl with | [_, _], _ => rfl⟩
  case p_woken_by => exact ⟨PySem.W.mg_of X G h_a_woken_by, fun_mk (st := s_woken_by) h_l_woken_by h_c_woken_by h_k_woken_by, (fun_mk (st := s_woken_by) h_l_woken_by h_c_woken_by h_k_woken_by).binds (ps := ["program", "place"]) fun _ _ _ _ _ _ us hl => match us, hl with | [_, _], _ => rfl⟩
  case p_wakes => exact ⟨PySem.W.mg_of X G h_a_wakes, fun_mk (st := s_wakes) h_l_wakes h_c_wakes h_k_wakes, (fun_mk (st := s_wakes) h_l_wakes h_c_wakes h_k_wakes).binds (ps := ["program", "one", "other"]) fun _ _ _ _ _ _ us hl => match us, hl with | [_, _, _], _ => rfl⟩
  case p_wakings => exact ⟨PySem.W.mg_of X G h_a_wakings, fun_mk (st := s_wakings) h_l_wakings h_c_wakings h_k_wakings, (fun_mk (st := s_wakings) h_l_wakings h_c_wakings h_k_wakings).binds (ps := ["program"]) fun _ _ _ _ _ _ us hl => match us, hl with | [_], _ => rfl⟩
  case p__law_pool => exact ⟨PySem.W.mg_of X G h_a__law_pool, fun_mk (st := s__law_pool) h_l__law_pool h_c__law_pool h_k__law_pool, (fun_mk (st := s__law_pool) h_l__law_pool h_c__law_pool h_k__law_pool).binds (ps := ["script", "k"]) fun _ _ _ _ _ _ us hl => match us, hl with | [_, _], _ => rfl⟩
  case p__law_take => exact ⟨PySem.W.mg_of X G h_a__law_take, fun_mk (st := s__law_take) h_l__law_take h_c__law_take h_k__law_take, (fun_mk (st := s__law_take) h_l__law_take h_c__law_take h_k__law_take).binds (ps := ["pool", "bound"]) fun _ _ _ _ _ _ us hl => match us, hl with | [_, _], _ => rfl⟩
  case p__law_one => exact ⟨PySem.W.mg_of X G h_a__law_one, fun_mk (st := s__law_one) h_l__law_one h_c__law_one h_k__law_one, (fun_mk (st := s__law_one) h_l__law_one h_c__law_one h_k__law_one).binds (ps := ["pool", "things"]) fun _ _ _ _ _ _ us hl => match us, hl with | [_, _], _ => rfl⟩
  case p__law_turned => exact ⟨PySem.W.mg_of X G h_a__law_turned, fun_mk (st := s__law_turned) h_l__law_turned h_c__law_turned h_k__law_turned, (fun_mk (st := s__law_turned) h_l__law_turned h_c__law_turned h_k__law_turned).binds (ps := ["pool", "things"]) fun _ _ _ _ _ _ us hl => match us, hl with | [_, _], _ => rfl⟩
  case p__law_words => exact ⟨PySem.W.mg_of X G h_a__law_words, fun_mk (st := s__law_words) h_l__law_words h_c__law_words h_k__law_words, (fun_mk (st := s__law_words) h_l__law_words h_c__law_words h_k__law_words).binds (ps := ["pool", "bound"]) fun _ _ _ _ _ _ us hl => match us, hl with | [_, _], _ => rfl⟩
  case p__law_tree => exact ⟨PySem.W.mg_of X G h_a__law_tree, fun_mk (st := s__law_tree) h_l__law_tree h_c__law_tree h_k__law_tree, (fun_mk (st := s__law_tree) h_l__law_tree h_c__law_tree h_k__law_tree).binds (ps := ["pool", "words", "digits", "deep"]) fun _ _ _ _ _ _ us hl => match us, hl with | [_, _, _, _], _ => rfl⟩
  case p__law_tree_text => exact ⟨PySem.W.mg_of X G h_a__law_tree_text, fun_mk (st := s__law_tree_text) h_l__law_tree_text h_c__law_tree_text h_k__law_tree_text, (fun_mk (st := s__law_tree_text) h_l__law_tree_text h_c__law_tree_text h_k__law_tree_text).binds (ps := ["tree"]) fun _ _ _ _ _ _ us hl => match us, hl with | [_], _ => rfl⟩
  case p__law_deed_text => exact ⟨PySem.W.mg_of X G h_a__law_deed_text, fun_mk (st := s__law_deed_text) h_l__law_deed_text h_c__law_deed_text h_k__law_deed_text, (fun_mk (st := s__law_deed_text) h_l__law_deed_text h_c__law_deed_text h_k__law_deed_text).binds (ps := ["deed"]) fun _ _ _ _ _ _ us hl => match us, hl with | [_], _ => rfl⟩
  case p__law_deeds_drawn => exact ⟨PySem.W.mg_of X G h_a__law_deeds_drawn, fun_mk (st := s__law_deeds_drawn) h_l__law_deeds_drawn h_c__law_deeds_drawn h_k__law_deeds_drawn, (fun_mk (st := s__law_deeds_drawn) h_l__law_deeds_drawn h_c__law_deeds_drawn h_k__law_deeds_drawn).binds (ps := ["pool", "written", "words", "digits", "bound", "deep"]) fun _ _ _ _ _ _ us hl => match us, hl with | [_, _, _, _, _, _], _ => rfl⟩
  case p__law_plain => exact ⟨PySem.W.mg_of X G h_a__law_plain, fun_mk (st := s__law_plain) h_l__law_plain h_c__law_plain h_k__law_plain, (fun_mk (st := s__law_plain) h_l__law_plain h_c__law_plain h_k__law_plain).binds (ps := ["pool", "many_processes", "many_deeds", "deep"]) fun _ _ _ _ _ _ us hl => match us, hl with | [_, _, _, _], _ => rfl⟩
  case p__law_less_at_once => exact ⟨PySem.W.mg_of X G h_a__law_less_at_once, fun_mk (st := s__law_less_at_once) h_l__law_less_at_once h_c__law_less_at_once h_k__law_less_at_once, (fun_mk (st := s__law_less_at_once) h_l__law_less_at_once h_c__law_less_at_once h_k__law_less_at_once).binds (ps := ["plain"]) fun _ _ _ _ _ _ us hl => match us, hl with | [_], _ => rfl⟩
  case p__law_made_process => exact ⟨PySem.W.mg_of X G h_a__law_made_process, fun_mk (st := s__law_made_process) h_l__law_made_process h_c__law_made_process h_k__law_made_process, (fun_mk (st := s__law_made_process) h_l__law_made_process h_c__law_made_process h_k__law_made_process).binds (ps := ["entry"]) fun _ _ _ _ _ _ us hl => match us, hl with | [_], _ => rfl⟩
  case p__law_made => exact ⟨PySem.W.mg_of X G h_a__law_made, fun_mk (st := s__law_made) h_l__law_made h_c__law_made h_k__law_made, (fun_mk (st := s__law_made) h_l__law_made h_c__law_made h_k__law_made).binds (ps := ["plain"]) fun _ _ _ _ _ _ us hl => match us, hl with | [_], _ => rfl⟩
  case p__law_may_wake => exact ⟨PySem.W.mg_of X G h_a__law_may_wake, fun_mk (st := s__law_may_wake) h_l__law_may_wake h_c__law_may_wake h_k__law_may_wake, (fun_mk (st := s__law_may_wake) h_l__law_may_wake h_c__law_may_wake h_k__law_may_wake).binds (ps := ["near", "far", "is_same"]) fun _ _ _ _ _ _ us hl => match us, hl with | [_, _, _], _ => rfl⟩
  case p__law_refused => exact ⟨PySem.W.mg_of X G h_a__law_refused, fun_mk (st := s__law_refused) h_l__law_refused h_c__law_refused h_k__law_refused, (fun_mk (st := s__law_refused) h_l__law_refused h_c__law_refused h_k__law_refused).binds (ps := ["program", "one", "other"]) fun _ _ _ _ _ _ us hl => match us, hl with | [_, _, _], _ => rfl⟩
  case p_law => exact ⟨PySem.W.mg_of X G h_a_law, fun_mk (st := s_law) h_l_law h_c_law h_k_law, (fun_mk (st := s_law) h_l_law h_c_law h_k_law).binds (ps := ["script"]) fun _ _ _ _ _ _ us hl => match us, hl with | [_], _ => rfl⟩
  case p_blaw => exact fun s v => .of_eq rfl
  case p_bi => exact ⟨PySem.W.mg_none_of X G h_b_len, PySem.W.mg_none_of X G h_b_max, PySem.W.mg_none_of X G h_b_min, PySem.W.mg_none_of X G h_b_int, PySem.W.mg_none_of X G h_b_str, PySem.W.mg_none_of X G h_b_tuple, PySem.W.mg_none_of X G h_b_list, PySem.W.mg_none_of X G h_b_bool, PySem.W.mg_none_of X G h_b_dict, PySem.W.mg_none_of X G h_b_set, PySem.W.mg_none_of X G h_b_isinstance, PySem.W.mg_none_of X G h_b_sorted, PySem.W.mg_none_of X G h_b_repr, PySem.W.mg_none_of X G h_b_range, PySem.W.mg_none_of X G h_b_enumerate, PySem.W.mg_none_of X G h_b_zip, PySem.W.mg_none_of X G h_b_sum, PySem.W.mg_none_of X G h_b_all, PySem.W.mg_none_of X G h_b_any⟩
  case p_tn => exact h_tn
  case p_tt => exact h_tt
end Z
set_option maxRecDepth 100000
set_option maxHeartbeats 4000000
namespace Z
open PySem PySem.Spec PyProof.Rows L2
section
variable {P : Program} {w : World} {K : PySem.W.Frag} {mg : Str → Option Value} {base : Heap} {a : Ad}
def spWhole (K : PySem.W.Frag) : Sp := fun vs H Q _ => ∃ (x : V) (t : String) (r1 r2 : Bool), vs = [x] ∧ TyX K H x (.type t) ∧ kitB t "int" = some r1 ∧ kitB t "bool" = some r2 ∧ Q (.bl (r1 && !r2)) H
theorem ok_whole (T : Tx P K mg a) : FnOk P w K mg base CX0 1 a.f_is_whole a.d_is_whole ["value"] (spWhole K) := by
  refine T.is_whole.fn.ok sc_is_whole (fun vs H Q E h => ?_) (fun cdv A outer s H vs Q E hr h => ?_)
  · obtain ⟨x, t, r1, r2, rfl, _⟩ := h
    rfl
  · obtain ⟨x, t, r1, r2, rfl, ty, k1, k2, q⟩ := h
    refine ⟨_, (pss_one (ps_ret (pe_and (cb_isi T.bi (pa_cons (pv 0) (pa_cons (gl_ty rfl T.bi.int PyProof.Rows.boot_int) pa_nil))) (pe_one (pe_not (cb_isi T.bi (pa_cons (pv 0) (pa_cons (gl_ty rfl T.bi.bool PyProof.Rows.boot_bool) pa_nil)))))))), ?_⟩
    refine ⟨_, rfl, isiTy ty k1 ?_⟩
    cases r1 with
    | true =>
      refine ⟨_, rfl, ?_⟩
      refine ⟨_, rfl, isiTy ty k2 ?_⟩
      exact ⟨_, rfl, q⟩
    | false => exact ⟨_, rfl, q⟩
def spNumber (K : PySem.W.Frag) : Sp := fun vs H Q _ => ∃ (x : V) (lo hi : Int), vs = [x, .int lo, .int hi] ∧ ((∃ n, x = .int n ∧ Q (.bl (decide (lo ≤ n) && decide (n ≤ hi))) H) ∨ (∃ (t : String) (r1 r2 : Bool), TyX K H x (.type t) ∧ kitB t "int" = some r1 ∧ kitB t "bool" = some r2 ∧ (r1 && !r2) = false ∧ Q (.bl false) H))
theorem ok_number (T : Tx P K mg a) : FnOk P w K mg base CX0 2 a.f_is_number a.d_is_number ["value", "low", "high"] (spNumber K) := by
  have F1 : FnOk P w K mg base CX0 1 a.f_is_whole a.d_is_whole ["value"] (spWhole K) := ok_whole T
  refine T.is_number.fn.ok sc_is_number (fun vs H Q E h => ?_) (fun cdv A outer s H vs Q E hr h => ?_)
  · obtain ⟨x, lo, hi, rfl, _⟩ := h
    rfl
  · obtain ⟨x, lo, hi, rfl, h⟩ := h
    refine ⟨_, (pss_one (ps_ret (pe_and (pe_cf T.is_whole F1 hr (pa_cons (pv 0) pa_nil)) (pe_one (pe_chain op_le op_le (pv 1) (pv 0) (pv 2)))))), ?_⟩
    rcases h with ⟨n, rfl, q⟩ | ⟨t, r1, r2, ty, k1, k2, e, q⟩
    · refine ⟨_, rfl, _, "int", true, false, rfl, .base (.int n), k_ii, k_ib, ?_⟩
      refine ⟨_, rfl, ?_⟩
      refine ⟨_, rfl, _, rfl, lo, n, rfl, rfl, _, rfl, ?_⟩
      by_cases h1 : lo ≤ n
      · rw [decide_eq_true h1]
        refine ⟨_, rfl, n, hi, rfl, rfl, ?_⟩
        rw [decide_eq_true h1, Bool.true_and] at q
        exact q
      · rw [decide_eq_false h1]
        rw [decide_eq_false h1, Bool.false_and] at q
        exact q
    · refine ⟨_, rfl, _, t, r1, r2, rfl, ty, k1, k2, ?_⟩
      rw [e]
      exact ⟨_, rfl, q⟩
def spWord : Sp := fun vs H Q _ => ∃ z : Str, vs = [.str z] ∧ z.length ≤ sizeLine ∧ ∀ H', Same H H' → Q (.bl (wordB (ls z))) H'
theorem ok_word (T : Tx P K mg a) : FnOk P w K mg base CX0 1 a.f_is_word a.d_is_word ["value"] spWord := by
  refine T.is_word.fn.ok sc_is_word (fun vs H Q E h => ?_) (fun cdv A outer s H vs Q E hr h => ?_)
  · obtain ⟨z, rfl, _⟩ := h
    rfl
  · obtain ⟨z, rfl, hz, q⟩ := h
    have nd := sc_is_word.nd
    refine ⟨_, (pss_cons (ps_if (PW.pt (pw_or (pt_not (pt_val (cb_isi T.bi (pa_cons (pv 0) (pa_cons (gl_ty rfl T.bi.str PyProof.Rows.boot_str) pa_nil))))) (pw_or1 (pt_not (pt_chain op_le op_le pe_int (cb_len T.bi (pa_cons (pv 0) pa_nil)) (pe_gi T.v_MOST_LETTERS))))))
      (pss_one (ps_ret pe_bl)) pss_nil)
      (pss_one (ps_ret (pe_cmpR (op_eqX hr) (pe_lc (own := [("sign", 1)]) (by rfl) nd (pi_str (pv 0)) (blkOk_by (own := [("sign", 1)]) (N := ["value", "sign"]) (sc := defScope s_is_word) (by decide +kernel)) (fun _ _ _ _ _ => (pg_name (i := 1) nd rfl (Or.inl rfl))) (fun _ _ _ _ _ => pts_one (pt_cmpR (op_notInA (K := K)) (pv 1) (pe_gs T.v_LETTERS) rfl)) (fun _ _ _ _ _ => (pv 1))) (pe_lst pa_nil) (nomark _))))), ?_⟩
    refine ⟨_, rfl, isiTy (.base (.str z)) k_ss ?_⟩
    refine ⟨_, rfl, ?_⟩
    refine ⟨_, rfl, lenS hz ?_⟩
    refine ⟨1, _, rfl, rfl, _, rfl, ?_⟩
    have L : (z.length : Int) = ((ls z).length : Int) := by rw [ls_len]
    by_cases h1 : (1 : Int) ≤ (z.length : Int)
    · rw [decide_eq_true h1]
      refine ⟨_, 8, rfl, rfl, ?_⟩
      by_cases h2 : (z.length : Int) ≤ 8
      · refine ⟨_, rfl, ?_⟩
        rw [decide_eq_true h2]
        have hw : wordB (ls z) = (ls z).all isLB := by
          unfold wordB
          rw [decide_eq_true (show 1 ≤ (ls z).length by omega), decide_eq_true (show (ls z).length ≤ 8 by omega)]
          rfl
        refine ⟨_, rfl, z, rfl, fun D hD => ?_⟩
        refine lc_it (walk_str (z := z)) (fun i H' => ∃ acc : List V, H' D = some (.lst acc) ∧ Same H H' ∧ acc.length ≤ i ∧ acc.isEmpty = ((ls z).take i).all isLB) ⟨[], upd_same, sNew hD, Nat.le_refl _, rfl⟩ (fun _ _ _ _ => trivial) ?_ ?_
        · rintro i x H1 H1' hi ⟨acc, hA, sm, ln, em⟩ ⟨rfl, c, hc, rfl⟩
          refine ⟨rfl, _, rfl, ninSgn ?_⟩
          have hc' : (ls z)[i]? = some c := by
            show z.cps.toList[i]? = some c
            rw [Array.getElem?_toList]
            exact hc
          have tk : (ls z).take (i + 1) = (ls z).take i ++ [c] := by rw [List.take_succ, hc']; rfl
          refine ⟨_, rfl, ?_⟩
          rw [mem_let']
          cases hl : isLB c with
          | true => exact ⟨acc, hA, sm, Nat.le_succ_of_le ln, by rw [tk, List.all_append, ← em]; simp [hl]⟩
          | false =>
            have small : acc.length < sizeLine := by
              have : i < z.length := hi
              omega
            refine ⟨_, rfl, acc, hA, small, acc ++ [.str ⟨#[c]⟩], upd_same, fun b o e => ?_, by rw [List.length_append]; exact Nat.succ_le_succ ln, ?_⟩
            · rw [upd_ne (ne_of_none e hD)]
              exact sm b o e
            · rw [tk, List.all_append]
              simp [hl]
        · rintro H1 ⟨acc, hA, sm, ln, em⟩
          refine ⟨Nat.zero_le _, fun p hp => ?_⟩
          refine eqL0 (.inl (.inl (by rw [upd_ne (ne_of_none hA hp)]; exact hA))) upd_same ?_
          have : (ls z).take z.cps.size = ls z := List.take_of_length_le (by simp [ls])
          rw [em, this, ← hw]
          exact q _ (sm.trans (sNew hp))
      · refine ⟨_, rfl, ?_⟩
        rw [decide_eq_false h2]
        have hw : wordB (ls z) = false := by
          unfold wordB
          rw [decide_eq_false (show ¬ (ls z).length ≤ 8 by omega), Bool.and_false, Bool.false_and]
        rw [hw] at q
        exact q _ (fun _ _ e => e)
    · rw [decide_eq_false h1]
      have hw : wordB (ls z) = false := by
        unfold wordB
        rw [decide_eq_false (show ¬ 1 ≤ (ls z).length by omega), Bool.false_and, Bool.false_and]
      rw [hw] at q
      exact ⟨_, rfl, q _ (fun _ _ e => e)⟩
def spDigit : Sp := fun vs H Q _ => ∃ c : Nat, vs = [.str (tx [c])] ∧ Q (.bl (isDB c)) H
theorem ok_digit (T : Tx P K mg a) : FnOk P w K mg base CX0 1 a.f_is_digit a.d_is_digit ["value"] spDigit := by
  refine T.is_digit.fn.ok sc_is_digit (fun vs H Q E h => ?_) (fun cdv A outer s H vs Q E hr h => ?_)
  · obtain ⟨z, rfl, _⟩ := h
    rfl
  · obtain ⟨c, rfl, q⟩ := h
    refine ⟨_, (pss_one (ps_ret (pe_and (cb_isi T.bi (pa_cons (pv 0) (pa_cons (gl_ty rfl T.bi.str PyProof.Rows.boot_str) pa_nil))) (pe_and (pe_cmpR (op_eqX hr) (cb_len T.bi (pa_cons (pv 0) pa_nil)) pe_int (nomark _)) (pe_one (pe_cmpR op_inA (pv 0) (pe_gs T.v_DIGITS) rfl)))))), ?_⟩
    refine ⟨_, rfl, isiTy (.base (.str _)) k_ss ?_⟩
    refine ⟨_, rfl, ?_⟩
    refine ⟨_, rfl, lenS (by rw [tx_len]; show 1 ≤ sizeLine; decide) ?_⟩
    refine eqI ?_
    rw [tx_len]
    refine ⟨_, rfl, ?_⟩
    refine ⟨_, rfl, inSgn ?_⟩
    rw [mem_dig']
    exact q
theorem take_next {l : List Nat} {i : Nat} {c : Nat} (h : l[i]? = some c) : l.drop i = c :: l.drop (i + 1) := by
  obtain ⟨h1, h2⟩ := List.getElem?_eq_some_iff.mp h
  rw [List.drop_eq_getElem_cons h1, h2]
def spWordAt : Sp := fun vs H Q _ => ∃ (z : Str) (i : Nat), vs = [.str z, .int i] ∧ i ≤ z.length ∧ z.length ≤ sizeLine ∧ Q (.str (tx (((ls z).drop i).takeWhile isLB))) H
theorem ok_word_at (T : Tx P K mg a) : FnOk P w K mg base CX0 1 a.f_word_at a.d_word_at ["text", "at"] spWordAt := by
  refine T.word_at.fn.ok sc_word_at (fun vs H Q E h => ?_) (fun cdv A outer s H vs Q E hr h => ?_)
  · obtain ⟨z, i, rfl, _⟩ := h
    rfl
  · obtain ⟨z, i, rfl, hi, hz, q⟩ := h
    have nd := sc_word_at.nd
    refine ⟨_, (pss_cons (ps_set (i := 2) nd rfl (Or.inl rfl) (pv 1))
      (pss_cons (ps_while PassesOwn.never (PW.pt (pw_and (pt_cmpR op_lt (pv 2) (cb_len T.bi (pa_cons (pv 0) pa_nil)) (nomark _)) (pw_and1 (pt_cmpR op_inA (pe_ix ix_A (pv 0) (pv 2) (fun _ _ => rfl)) (pe_gs T.v_LETTERS) rfl))))
        (pss_one (ps_aug (i := 2) nd rfl (Or.inl rfl) pe_int ip_add)))
      (pss_one (ps_ret (pe_slice sl_str (pv 0) (po_some (pv 1)) (po_some (pv 2))))))), ?_⟩
    refine ⟨_, rfl, ?_⟩
    refine ⟨fun m σ H' => ∃ j : Nat, m = z.length - j ∧ i ≤ j ∧ j ≤ z.length ∧ H' = H ∧ σ = [some (.str z), some (.int (i : Nat)), some (.int (j : Nat))] ∧ ((ls z).drop i).takeWhile isLB = ((ls z).drop i).take (j - i) ++ ((ls z).drop j).takeWhile isLB,
      ⟨_, i, rfl, Nat.le_refl _, hi, rfl, rfl, by rw [Nat.sub_self]; rfl⟩, ?_⟩
    rintro m σ H' ⟨j, rfl, hij, hj, rfl, rfl, tw⟩
    refine ⟨_, rfl, _, rfl, lenS hz ?_⟩
    have fin : ((ls z).drop j).takeWhile isLB = [] → Q (.str (cutS z (some (i : Nat)) (some (j : Nat)))) H' := fun e => by
      have : cutS z (some (i : Nat)) (some (j : Nat)) = tx (((ls z).drop i).takeWhile isLB) := by
        rw [tw, e, List.append_nil]
        unfold cutS tx
        rw [HT.sIx_nat, HT.sIx_nat, Nat.min_eq_left hi, Nat.min_eq_left hj]
        rfl
      rw [this]
      exact q
    refine ⟨_, _, rfl, rfl, _, rfl, ?_⟩
    by_cases hl : j < z.length
    · rw [decide_eq_true (Int.ofNat_lt.mpr hl)]
      obtain ⟨c, hc⟩ : ∃ c, (ls z)[j]? = some c := ⟨_, List.getElem?_eq_getElem (by rw [ls_len]; exact hl)⟩
      refine ⟨_, rfl, _, rfl, ixS hz hc ?_⟩
      refine inSgn ?_
      rw [mem_let']
      have dj := take_next hc
      refine ⟨_, rfl, ?_⟩
      cases lb : isLB c with
      | true =>
        refine ⟨_, fun σ' H' h => h, ?_⟩
        refine ⟨_, rfl, _, _, rfl, rfl, ?_⟩
        refine ⟨z.length - (j + 1), by omega, j + 1, rfl, by omega, hl, rfl, by simp, ?_⟩
        rw [tw, dj, List.takeWhile_cons, if_pos lb]
        rw [show j + 1 - i = (j - i) + 1 by omega, List.take_succ]
        have : ((ls z).drop i)[j - i]? = some c := by
          rw [List.getElem?_drop, show i + (j - i) = j by omega]
          exact hc
        rw [this]
        simp
      | false =>
        refine ⟨_, rfl, _, rfl, _, rfl, _, rfl, _, rfl, z, rfl, hz, ?_⟩
        exact fin (by rw [dj, List.takeWhile_cons, lb]; rfl)
    · rw [decide_eq_false (fun h => hl (Int.ofNat_lt.mp h))]
      exact ⟨_, rfl, _, rfl, _, rfl, _, rfl, _, rfl, z, rfl, hz, fin (by rw [List.drop_eq_nil_of_le (by rw [ls_len]; omega)]; rfl)⟩
end
end Z
set_option maxRecDepth 100000
set_option maxHeartbeats 4000000
namespace Z
open PySem PySem.Spec PyProof.Rows L2
theorem tx1 {a b : Nat} : tx [a] = tx [b] ↔ a = b := by
  constructor
  · intro h
    have := congrArg ls h
    rw [ls_tx, ls_tx] at this
    simpa using this
  · rintro rfl
    rfl
theorem dig_int {c : Nat} (h : isDB c = true) : PySem.intText? (tx [c]) = some ((c : Int) - 48) := by
  have : c = 48 ∨ c = 49 ∨ c = 50 ∨ c = 51 ∨ c = 52 ∨ c = 53 ∨ c = 54 ∨ c = 55 ∨ c = 56 ∨ c = 57 := by
    unfold isDB at h
    simp at h
    omega
  rcases this with rfl | rfl | rfl | rfl | rfl | rfl | rfl | rfl | rfl | rfl <;> decide +kernel
theorem drop_word {l : List Nat} {i : Nat} {p : Nat → Bool} : l.drop (i + ((l.drop i).takeWhile p).length) = (l.drop i).dropWhile p := by
  rw [← List.drop_drop]
  have := List.takeWhile_append_dropWhile (p := p) (l := l.drop i)
  conv => lhs; arg 2; rw [← this]
  exact List.drop_left
def Got (K : PySem.W.Frag) (H : Hp) (z : Str) (v : V) : Option (Tr × List Nat) → Prop
  | none => v = .non
  | some (t, r) => ∃ (p : Addr) (j : Nat) (u : V), v = .ref p ∧ j ≤ z.length ∧ (ls z).drop j = r ∧ H p = some (.tup [u, .int (j : Nat)]) ∧ Dp K H u t.d
def spPlanAt (K : PySem.W.Frag) (d : Nat) : Sp := fun vs H Q _ => ∃ (z : Str) (i : Nat), vs = [.str z, .int (i : Nat), .int (d : Nat)] ∧ i ≤ z.length ∧ z.length ≤ sizeLine ∧ 1 ≤ d ∧ ∀ v H', Same H H' → Got K H' z v (pl d ((ls z).drop i)) → Q v H'
def codes : List Nat := [61, 63, 58, 41]
def plm (us : List Tr) : Option (List Tr × List Nat) → Option (List Tr × List Nat)
  | some (ts, q) => some (us ++ ts, q)
  | none => none
theorem dpAll_tk {K : PySem.W.Frag} {H H' : Hp} (k : TK H H') : ∀ {us : List V} {ts : List Tr}, DpAll K H us (ts.map Tr.d) → DpAll K H' us (ts.map Tr.d)
  | _, [], h => by
    cases h
    exact .nil
  | _, t :: ts, h => by
    cases h with
    | cons h1 h2 => exact .cons (tr_tk k t h1) (dpAll_tk k h2)
section
variable {P : Program} {w : World} {K : PySem.W.Frag} {mg : Str → Option Value} {base : Heap} {a : Ad}
theorem fnNo {CX : CXT} {k : Nat} {f : Addr} {fd : FuncData} {ps : List Str} {sp : Sp} (h : ∀ vs H Q E, sp vs H Q E → False) : FnOk P w K mg base CX k f fd ps sp :=
  ⟨fun vs H Q E z => (h _ _ _ _ z).elim, fun A outer s H args us vs Q E _ _ _ _ z => (h _ _ _ _ z).elim⟩
theorem ok_plan_at (T : Tx P K mg a) : ∀ d : Nat, FnOk P w K mg base CX0 (d + 1) a.f_plan_at a.d_plan_at ["text", "at", "deep"] (spPlanAt K d)
  | 0 => fnNo fun vs H Q E ⟨z, i, _, _, _, h, _⟩ => by omega
  | d + 1 => by
    have IH : FnOk P w K mg base CX0 (d + 1) a.f_plan_at a.d_plan_at ["text", "at", "deep"] (spPlanAt K d) := ok_plan_at T d
    have Fd : FnOk P w K mg base CX0 1 a.f_is_digit a.d_is_digit ["value"] spDigit := ok_digit T
    have Fw : FnOk P w K mg base CX0 1 a.f_is_word a.d_is_word ["value"] spWord := ok_word T
    have Fa : FnOk P w K mg base CX0 1 a.f_word_at a.d_word_at ["text", "at"] spWordAt := ok_word_at T
    refine T.plan_at.fn.ok sc_plan_at (fun vs H Q E h => ?_) (fun cdv A outer s H vs Q E hr h => ?_)
    · obtain ⟨z, i, rfl, _⟩ := h
      rfl
    · obtain ⟨z, i, rfl, hi, hz, _, q⟩ := h
      have nd := sc_plan_at.nd
      have hr1 : Room 1 _ := hr.mono (by omega)
      refine ⟨_, (pss_cons (ps_if (PW.pt (pw_and (pt_cmpR op_lt (pv 1) (cb_len T.bi (pa_cons (pv 0) pa_nil)) (nomark _)) (pw_and1 (pt_val (pe_cf T.is_digit Fd hr1 (pa_cons (pe_ix ix_A (pv 0) (pv 1) (fun _ _ => rfl)) pa_nil))))))
        (pss_one (ps_ret (pe_tup (pa_cons (cb_int T.bi (pa_cons (pe_ix ix_A (pv 0) (pv 1) (fun _ _ => rfl)) pa_nil)) (pa_cons (pe_op op_addA (pv 1) pe_int) pa_nil))))) pss_nil)
        (pss_cons (ps_set (i := 3) nd rfl (Or.inl rfl) (pe_cf T.word_at Fa hr1 (pa_cons (pv 0) (pa_cons (pv 1) pa_nil))))
        (pss_cons (ps_if (pt_val (pe_cf T.is_word Fw hr1 (pa_cons (pv 3) pa_nil)))
          (pss_one (ps_ret (pe_tup (pa_cons (pv 3) (pa_cons (pe_op op_addA (pv 1) (cb_len T.bi (pa_cons (pv 3) pa_nil))) pa_nil))))) pss_nil)
        (pss_cons (ps_if (PW.pt (pw_or (pt_cmpR op_ge (pv 1) (cb_len T.bi (pa_cons (pv 0) pa_nil)) (nomark _)) (pw_or (pt_cmpR (op_neX hr) (pe_ix ix_A (pv 0) (pv 1) (fun _ _ => rfl)) (pe_ix ix_A (pe_gr T.v_SIGNS) pe_int (fun _ _ => rfl)) (nomark _)) (pw_or1 (pt_cmpR (op_eqX hr) (pv 2) pe_int (nomark _))))))
          (pss_one (ps_ret pe_non)) pss_nil)
        (pss_cons (ps_set (i := 4) nd rfl (Or.inl rfl) (pe_lst pa_nil))
        (pss_cons (ps_for PassesOwn.never rfl (pi_tup (pe_slice sl_tupA (pe_gr T.v_SIGNS) (po_some pe_int) po_none)) (pg_name (i := 5) nd rfl (Or.inl rfl))
          (pss_cons (ps_set (i := 6) nd rfl (Or.inl rfl) (pe_cf T.plan_at IH hr (pa_cons (pv 0) (pa_cons (pe_op op_addA (pv 1) pe_int) (pa_cons (pe_op op_sub (pv 2) pe_int) pa_nil)))))
          (pss_cons (ps_if (PW.pt (pw_or (pt_cmp (pc_isN (pv 6))) (pw_or (pt_cmpR op_ge (pe_ix ix_A (pv 6) pe_int (fun _ _ => rfl)) (cb_len T.bi (pa_cons (pv 0) pa_nil)) (nomark _)) (pw_or1 (pt_cmpR (op_neX hr) (pe_ix ix_A (pv 0) (pe_ix ix_A (pv 6) pe_int (fun _ _ => rfl)) (fun _ _ => rfl)) (pv 5) (nomark _))))))
            (pss_one (ps_ret pe_non)) pss_nil)
          (pss_cons (ps_asg (pv 6) (pg_tup rfl (pgs_cons (pg_name (i := 7) nd rfl (Or.inl rfl)) (pgs_cons (pg_name (i := 1) nd rfl (Or.inl rfl)) pgs_nil))))
          (pss_one (ps_expr (pe_bm PySem.F.plainAttrs_list PySem.F.slot_list_append PySem.F.type_list_append mt_append (pv 4) (pa_cons (pv 7) pa_nil))))))))
        (pss_one (ps_ret (pe_tup (pa_cons (cb_tuple T.bi (pa_cons (pv 4) pa_nil)) (pa_cons (pe_op op_addA (pv 1) pe_int) pa_nil))))))))))), ?_⟩
      refine ⟨_, rfl, _, rfl, lenS hz ?_⟩
      refine ⟨_, _, rfl, rfl, _, rfl, ?_⟩
      by_cases hl : i < z.length
      · rw [decide_eq_true (Int.ofNat_lt.mpr hl)]
        obtain ⟨c, hc⟩ : ∃ c, (ls z)[i]? = some c := ⟨_, List.getElem?_eq_getElem (by rw [ls_len]; exact hl)⟩
        have dj := take_next hc
        rw [dj] at q
        refine ⟨_, rfl, _, rfl, ixS hz hc ?_⟩
        refine ⟨c, rfl, ?_⟩
        refine ⟨_, rfl, ?_⟩
        have e1 : (i : Int) + 1 = ((i + 1 : Nat) : Int) := rfl
        cases hd : isDB c with
        | true =>
          refine ⟨_, rfl, _, rfl, ixS hz hc ?_⟩
          refine intS (dig_int hd) (by rw [tx_len]; show 1 ≤ 640; decide) ?_
          refine ⟨_, rfl, ?_⟩
          refine addI ?_
          refine ⟨by show 2 ≤ sizeLine; decide, fun p hp => ?_⟩
          refine q _ _ (sNew hp) ?_
          unfold pl
          rw [if_pos hd]
          exact ⟨p, i + 1, _, rfl, hl, rfl, upd_same, .int _⟩
        | false =>
          refine ⟨_, rfl, _, rfl, z, i, rfl, hi, hz, ?_⟩
          rw [dj]
          generalize hw : (c :: (ls z).drop (i + 1)).takeWhile isLB = l
          have ll : l.length ≤ z.length := by
            have h1 := (List.takeWhile_sublist (p := isLB) (l := c :: (ls z).drop (i + 1))).length_le
            rw [hw, ← dj, List.length_drop, ls_len] at h1
            omega
          refine ⟨_, rfl, tx l, rfl, by rw [tx_len]; omega, fun H1 s1 => ?_⟩
          refine ⟨_, rfl, ?_⟩
          rw [ls_tx]
          cases hwb : wordB l with
          | true =>
            refine ⟨_, rfl, _, rfl, _, rfl, lenS (by rw [tx_len]; omega) ?_⟩
            refine addI ?_
            refine ⟨by show 2 ≤ sizeLine; decide, fun p hp => ?_⟩
            refine q _ _ (s1.trans (sNew hp)) ?_
            unfold pl
            rw [if_neg (by rw [hd]; exact Bool.false_ne_true), hw, if_pos hwb]
            refine ⟨p, i + l.length, _, rfl, ?_, ?_, ?_, .str _⟩
            · have h1 := (List.takeWhile_sublist (p := isLB) (l := c :: (ls z).drop (i + 1))).length_le
              rw [hw, ← dj, List.length_drop, ls_len] at h1
              omega
            · rw [← hw, ← dj]
              exact drop_word
            · rw [tx_len, upd_same]
              rfl
          | false =>
            have plk : pl (d + 1) (c :: (ls z).drop (i + 1)) = if c ≠ 40 ∨ d = 0 then none else plx (plp (pl d) codes ((ls z).drop (i + 1))) := by
              conv => lhs; unfold pl
              rw [if_neg (by rw [hd]; exact Bool.false_ne_true), hw, if_neg (by rw [hwb]; exact Bool.false_ne_true)]
              rfl
            refine ⟨_, rfl, _, rfl, lenS hz ?_⟩
            refine ⟨_, _, rfl, rfl, _, rfl, ?_⟩
            rw [decide_eq_false (show ¬ (z.length : Int) ≤ (i : Int) by omega)]
            refine ⟨_, rfl, _, rfl, ixS hz hc ?_⟩
            refine ixT (i := 0) (T.w_SIGNS _) rfl ?_
            refine neS ?_
            refine ⟨_, rfl, ?_⟩
            by_cases h40 : c = 40
            · subst h40
              rw [decide_eq_true (show tx [40] = ("(" : Str) by decide +kernel)]
              refine ⟨_, rfl, eqI ?_⟩
              refine ⟨_, rfl, ?_⟩
              by_cases h0 : d = 0
              · subst h0
                refine q _ _ s1 ?_
                rw [plk, if_pos (.inr rfl)]
                rfl
              · rw [decide_eq_false (show ¬ ((d + 1 : Nat) : Int) = 1 by omega)]
                rw [plk, if_neg (by omega)] at q
                refine ⟨Nat.zero_le _, fun l0 hl0 => ?_⟩
                refine ⟨1, rfl, a.v_SIGNS, [V.str "(", .str "=", .str "?", .str ":", .str ")"], rfl, T.w_SIGNS _, fun h => absurd h.1 (by decide), fun _ p0 hp0 => ?_⟩
                have cv : cutV [V.str "(", .str "=", .str "?", .str ":", .str ")"] (some 1) none = [V.str "=", .str "?", .str ":", .str ")"] := rfl
                rw [cv]
                have s2 : Same H (upd (upd H1 l0 (.lst [])) p0 (.tup [V.str "=", .str "?", .str ":", .str ")"])) := (s1.trans (sNew hl0)).trans (sNew hp0)
                have n0 : l0 ≠ p0 := ne_of_none (H := upd H1 l0 (.lst [])) upd_same hp0
                refine ⟨p0, rfl, ⟨_, .inl (.inl upd_same)⟩, ?_⟩
                refine for_it (walk_tup (xs := [V.str "=", .str "?", .str ":", .str ")"])) (fun n σ H' => ∃ (ts : List Tr) (us : List V) (j : Nat) (o5 o6 o7 : Option V), σ = [some (.str z), some (.int (j : Nat)), some (.int ((d + 1 : Nat) : Int)), some (.str (tx l)), some (.ref l0), o5, o6, o7] ∧
                    H' l0 = some (.lst us) ∧ DpAll K H' us (ts.map Tr.d) ∧ ts.length = n ∧ j < z.length ∧ Same H H' ∧ H' p0 = some (.tup [V.str "=", .str "?", .str ":", .str ")"]) ∧
                    plp (pl d) codes ((ls z).drop (i + 1)) = plm ts (plp (pl d) (codes.drop n) ((ls z).drop (j + 1))))
                  ⟨[], [], i, none, none, none, rfl, by rw [upd_ne n0, upd_same], .nil, rfl, hl, s2, upd_same, ?_⟩ (fun n σ H' _ ⟨ts, us, j, o5, o6, o7, _, _, _, _, _, _, hp, _⟩ => .inl (.inl hp)) ?_ ?_
                · show _ = plm [] (plp (pl d) codes ((ls z).drop (i + 1)))
                  cases plp (pl d) codes ((ls z).drop (i + 1)) with
                  | none => rfl
                  | some x => rfl
                · rintro n x σ H2 H2' hn ⟨ts, us, j, o5, o6, o7, rfl, hL, hD, lenT, hj, s3, hP, hp⟩ ⟨rfl, hx⟩
                  obtain ⟨sg, hsg, rfl⟩ : ∃ sg, codes[n]? = some sg ∧ x = .str (tx [sg]) := by
                    have hn' : n < 4 := hn
                    have : n = 0 ∨ n = 1 ∨ n = 2 ∨ n = 3 := by omega
                    rcases this with rfl | rfl | rfl | rfl <;> cases hx
                    · exact ⟨61, rfl, by decide +kernel⟩
                    · exact ⟨63, rfl, by decide +kernel⟩
                    · exact ⟨58, rfl, by decide +kernel⟩
                    · exact ⟨41, rfl, by decide +kernel⟩
                  have dn : codes.drop n = sg :: codes.drop (n + 1) := take_next hsg
                  rw [dn] at hp
                  refine ⟨_, rfl, _, rfl, addI ?_⟩
                  refine ⟨_, rfl, _, _, rfl, rfl, ?_⟩
                  refine ⟨z, j + 1, by show [V.str z, V.int ((j : Int) + 1), V.int (((d + 1 : Nat) : Int) - 1)] = _; rw [show ((d + 1 : Nat) : Int) - 1 = (d : Int) by omega]; rfl, hj, hz, by omega, fun v H3 s4 got => ?_⟩
                  have s5 := s3.trans s4
                  have hL3 := s4 _ _ hL
                  have hP3 := s4 _ _ hP
                  have hD3 := dpAll_same s4 hD
                  refine ⟨_, rfl, ?_⟩
                  cases hf : pl d ((ls z).drop (j + 1)) with
                  | none =>
                    rw [hf] at got
                    obtain rfl : v = .non := got
                    refine ⟨_, rfl, ?_⟩
                    refine q _ _ s5 ?_
                    rw [hp]
                    unfold plp
                    rw [hf]
                    rfl
                  | some tr =>
                    obtain ⟨t, r⟩ := tr
                    rw [hf] at got
                    obtain ⟨pf, jj, u, rfl, hjj, hr', hpf, hdu⟩ := got
                    refine ⟨_, rfl, ?_⟩
                    refine ⟨_, rfl, ixT (i := 1) (.inl (.inl hpf)) rfl ?_⟩
                    refine ⟨_, rfl, lenS hz ?_⟩
                    refine ⟨_, _, rfl, rfl, _, rfl, ?_⟩
                    by_cases hjl : jj < z.length
                    · rw [decide_eq_false (show ¬ (z.length : Int) ≤ (jj : Int) by omega)]
                      obtain ⟨c2, hc2⟩ : ∃ c, (ls z)[jj]? = some c := ⟨_, List.getElem?_eq_getElem (by rw [ls_len]; exact hjl)⟩
                      have dj2 := take_next hc2
                      rw [dj2] at hr'
                      subst hr'
                      refine ⟨_, rfl, _, rfl, ixT (i := 1) (.inl (.inl hpf)) rfl ?_⟩
                      refine ixS hz hc2 ?_
                      refine ⟨_, rfl, neS ?_⟩
                      refine ⟨_, rfl, ?_⟩
                      by_cases hcs : c2 = sg
                      · subst hcs
                        rw [decide_eq_true rfl]
                        refine ⟨_, rfl, pf, _, rfl, .inl (.inl hpf), rfl, ?_⟩
                        have hlen : us.length < sizeLine := by
                          have h1 := DpAll.length hD
                          rw [List.length_map, lenT] at h1
                          rw [h1]
                          have hn' : n < 4 := hn
                          exact Nat.lt_trans hn' (by decide)
                        refine ⟨_, _, rfl, _, _, rfl, rfl, ?_⟩
                        refine ⟨_, rfl, .inl ⟨rfl, us, .inl (.inl hL3)⟩, _, rfl, l0, us, u, rfl, rfl, hL3, hlen, ?_⟩
                        have s6 : Same H (upd H3 l0 (.lst (us ++ [u]))) := fun b o e => by
                          rw [upd_ne (ne_of_none e (s1.free hl0))]
                          exact s5 b o e
                        have tkk : TK H3 (upd H3 l0 (.lst (us ++ [u]))) := TK.lst hL3
                        refine ⟨ts ++ [t], us ++ [u], jj, _, _, _, rfl, upd_same, ?_, by rw [List.length_append, lenT]; rfl, hjl, s6, by rw [upd_ne n0.symm]; exact hP3, ?_⟩
                        · exact dpAll_tk (ts := ts ++ [t]) tkk (by rw [List.map_append]; exact DpAll.app hD3 (.cons hdu .nil))
                        · rw [hp]
                          conv => lhs; unfold plp
                          rw [hf]
                          simp only [if_true]
                          cases plp (pl d) (codes.drop (n + 1)) ((ls z).drop (jj + 1)) with
                          | none => rfl
                          | some y =>
                            obtain ⟨ts2, q2⟩ := y
                            show some (ts ++ t :: ts2, q2) = some ((ts ++ [t]) ++ ts2, q2)
                            rw [List.append_assoc]
                            rfl
                      · rw [decide_eq_false (fun e => hcs (tx1.mp e))]
                        refine q _ _ s5 ?_
                        rw [hp]
                        unfold plp
                        rw [hf]
                        simp only [if_neg hcs]
                        rfl
                    · rw [decide_eq_true (show (z.length : Int) ≤ (jj : Int) by omega)]
                      refine q _ _ s5 ?_
                      have : r = [] := by rw [← hr']; exact List.drop_eq_nil_of_le (by rw [ls_len]; omega)
                      subst this
                      rw [hp]
                      unfold plp
                      rw [hf]
                      rfl
                · rintro σ H2 ⟨ts, us, j, o5, o6, o7, rfl, hL, hD, lenT, hj, s3, hP, hp⟩
                  refine ⟨_, rfl, tupL (.inl (.inl hL)) fun p1 H3 n1 s4 h1 => ?_⟩
                  refine ⟨_, rfl, addI ?_⟩
                  refine ⟨by show 2 ≤ sizeLine; decide, fun p hpn => ?_⟩
                  refine q _ _ ((s3.trans s4).trans (sNew hpn)) ?_
                  rw [hp]
                  match ts, lenT with
                  | [t1, t2, t3, t4], _ =>
                    refine ⟨p, j + 1, _, rfl, hj, rfl, upd_same, ?_⟩
                    have hD' := dpAll_same (s4.trans (sNew hpn (o := .tup [V.ref p1, V.int ((j : Int) + 1)]))) hD
                    exact .tup (.inl (.inl (sNew hpn _ _ h1))) hD'
            · rw [decide_eq_false (fun e => h40 (tx1.mp (e.trans (show ("(" : Str) = tx [40] by decide +kernel))))]
              refine q _ _ s1 ?_
              rw [plk, if_pos (.inl h40)]
              rfl
      · rw [decide_eq_false (fun h => hl (Int.ofNat_lt.mp h))]
        have e0 : (ls z).drop i = [] := List.drop_eq_nil_of_le (by rw [ls_len]; omega)
        rw [e0] at q
        refine ⟨_, rfl, _, rfl, z, i, rfl, hi, hz, ?_⟩
        rw [e0]
        refine ⟨_, rfl, _, rfl, (by decide), fun H1 s1 => ?_⟩
        refine ⟨_, rfl, ?_⟩
        refine ⟨_, rfl, _, rfl, lenS hz ?_⟩
        refine ⟨_, _, rfl, rfl, _, rfl, ?_⟩
        rw [decide_eq_true (show (z.length : Int) ≤ (i : Int) by omega)]
        exact q _ _ s1 rfl
end
end Z
set_option maxRecDepth 100000
set_option maxHeartbeats 4000000
namespace Z
open PySem PySem.Spec PyProof.Rows L2
section
variable {P : Program} {w : World} {K : PySem.W.Frag} {mg : Str → Option Value} {base : Heap} {a : Ad}
theorem sUpd {H H' : Hp} {D : Addr} {o : HO} (hD : H D = none) (s : Same H H') : Same H (upd H' D o) := fun b u e => by
  rw [upd_ne (ne_of_none e hD)]
  exact s b u e
theorem tr_same {H H' : Hp} (e : Same H H') {t : Tr} {v : V} (h : Dp K H v t.d) : Dp K H' v t.d := dp_same e h
def Tr.kids : Tr → List Tr
  | .cho a b c e => [a, b, c, e]
  | _ => []
theorem get4 {v1 v2 v3 v4 x : V} {a b c e : Tr} {i : Nat} {H : Hp} (h : [v1, v2, v3, v4][i]? = some x) (h1 : Dp K H v1 a.d) (h2 : Dp K H v2 b.d) (h3 : Dp K H v3 c.d) (h4 : Dp K H v4 e.d) : ∃ t, [a, b, c, e][i]? = some t ∧ Dp K H x t.d := by
  match i, h with
  | 0, h => exact ⟨a, rfl, by cases h; exact h1⟩
  | 1, h => exact ⟨b, rfl, by cases h; exact h2⟩
  | 2, h => exact ⟨c, rfl, by cases h; exact h3⟩
  | 3, h => exact ⟨e, rfl, by cases h; exact h4⟩
theorem mem4 {a b c e t : Tr} {i : Nat} (h : [a, b, c, e][i]? = some t) : t = a ∨ t = b ∨ t = c ∨ t = e := by
  match i, h with
  | 0, h => cases h; exact .inl rfl
  | 1, h => cases h; exact .inr (.inl rfl)
  | 2, h => cases h; exact .inr (.inr (.inl rfl))
  | 3, h => cases h; exact .inr (.inr (.inr rfl))
theorem kid_deep {a b c e t : Tr} {i : Nat} (h : [a, b, c, e][i]? = some t) : t.deep + 1 ≤ (Tr.cho a b c e).deep := by
  have : (Tr.cho a b c e).deep = 1 + max (max a.deep b.deep) (max c.deep e.deep) := rfl
  rcases mem4 h with rfl | rfl | rfl | rfl <;> omega
theorem kid_ok {a b c e t : Tr} {i : Nat} (h : [a, b, c, e][i]? = some t) (ok : (Tr.cho a b c e).Ok) : t.Ok := by
  obtain ⟨oa, ob, oc, oe⟩ : a.Ok ∧ b.Ok ∧ c.Ok ∧ e.Ok := ok
  rcases mem4 h with rfl | rfl | rfl | rfl <;> assumption
theorem int_small {n : Int} (h : 0 ≤ n ∧ n ≤ 9) : n.natAbs.log2 < 1920 := Nat.lt_of_le_of_lt (Nat.log2_le_self _) (by omega)
def spText (K : PySem.W.Frag) (n : Nat) : Sp := fun vs H Q _ => ∃ (v : V) (t : Tr), vs = [v] ∧ Dp K H v t.d ∧ t.Ok ∧ t.deep ≤ n ∧ n ≤ 4 ∧ ∀ H', Same H H' → Q (.str t.text) H'
theorem join_text (a b c e : Tr) : Str.empty ++ "(" ++ a.text ++ "=" ++ b.text ++ "?" ++ c.text ++ ":" ++ e.text ++ ")" = (Tr.cho a b c e).text := by
  apply str_ext
  rw [cho_text]
  simp only [ls_app]
  have h0 : ls Str.empty = [] := rfl
  have h1 : ls ("(" : Str) = [40] := by decide +kernel
  have h2 : ls ("=" : Str) = [61] := by decide +kernel
  have h3 : ls ("?" : Str) = [63] := by decide +kernel
  have h4 : ls (":" : Str) = [58] := by decide +kernel
  have h5 : ls (")" : Str) = [41] := by decide +kernel
  rw [h0, h1, h2, h3, h4, h5]
  simp
theorem ok_text (T : Tx P K mg a) : ∀ n : Nat, FnOk P w K mg base CX0 (n + 1) a.f_text_of a.d_text_of ["plan"] (spText K n)
  | 0 => fnNo fun vs H Q E ⟨v, t, _, _, _, h, _⟩ => by
    have := deep_pos t
    omega
  | n + 1 => by
    have IH : FnOk P w K mg base CX0 (n + 1) a.f_text_of a.d_text_of ["plan"] (spText K n) := ok_text T n
    refine T.text_of.fn.ok sc_text_of (fun vs H Q E h => ?_) (fun cdv A outer s H vs Q E hr h => ?_)
    · obtain ⟨v, t, rfl, _⟩ := h
      rfl
    · obtain ⟨v, t, rfl, hv, ok, hd, hn, q⟩ := h
      have nd := sc_text_of.nd
      refine ⟨_, (pss_cons (ps_if (pt_not (pt_val (cb_isi T.bi (pa_cons (pv 0) (pa_cons (gl_ty rfl T.bi.tuple PyProof.Rows.boot_tuple) pa_nil)))))
        (pss_one (ps_ret (cb_str T.bi (pa_cons (pv 0) pa_nil)))) pss_nil)
        (pss_cons (ps_asg (pe_lc (own := [("part", 5)]) (by rfl) nd (pi_tup (pv 0)) (blkOk_by (own := [("part", 5)]) (N := ["plan", "one", "other", "same", "unlike", "part"]) (sc := defScope s_text_of) (by decide +kernel)) (fun _ _ _ _ _ => (pg_name (i := 5) nd rfl (Or.inl rfl))) (fun _ _ _ _ _ => pts_nil) (fun _ _ _ _ _ => (pe_cf T.text_of IH hr (pa_cons (pv 5) pa_nil)))) (pg_unl rfl (pgs_cons (pg_name (i := 1) nd rfl (Or.inl rfl)) (pgs_cons (pg_name (i := 2) nd rfl (Or.inl rfl)) (pgs_cons (pg_name (i := 3) nd rfl (Or.inl rfl)) (pgs_cons (pg_name (i := 4) nd rfl (Or.inl rfl)) pgs_nil))))))
        (pss_one (ps_ret (pe_joined (PJ.cons pe_str (PJ.cons (pe_fmt (pv 1)) (PJ.cons pe_str (PJ.cons (pe_fmt (pv 2)) (PJ.cons pe_str (PJ.cons (pe_fmt (pv 3)) (PJ.cons pe_str (PJ.cons (pe_fmt (pv 4)) (PJ.cons pe_str PJ.nil)))))))))))))), ?_⟩
      refine ⟨_, rfl, isiTr hv ?_⟩
      refine ⟨_, rfl, ?_⟩
      cases t with
      | con m =>
        obtain rfl := tr_con hv
        exact ⟨_, rfl, strI (int_small ok) (q _ fun _ _ e => e)⟩
      | var x =>
        obtain rfl := tr_var hv
        exact ⟨_, rfl, strS (q _ fun _ _ e => e)⟩
      | cho a1 b1 c1 e1 =>
        obtain ⟨p, v1, v2, v3, v4, rfl, sq, h1, h2, h3, h4⟩ := tr_cho hv
        refine ⟨_, rfl, p, rfl, ⟨_, sq⟩, fun D hD => ?_⟩
        refine lc_it (walk_tup (xs := [v1, v2, v3, v4])) (fun i H' => H' D = some (.lst (([a1, b1, c1, e1].take i).map fun t => V.str t.text)) ∧ Same H H') ⟨upd_same, sNew hD⟩ (fun _ _ _ ⟨_, sm⟩ => SqT.same sm sq) ?_ ?_
        · rintro i x H1 H1' hi ⟨hA, sm⟩ ⟨rfl, hx⟩
          obtain ⟨t, ht, hdt⟩ := get4 (K := K) (H := H) hx h1 h2 h3 h4
          refine ⟨rfl, _, rfl, x, t, rfl, tr_same sm hdt, kid_ok ht ok, by have := kid_deep ht; omega, by omega, fun H2 s2 => ?_⟩
          have hi' : i < 4 := hi
          refine ⟨_, s2 _ _ hA, ?_, ?_, sUpd hD (sm.trans s2)⟩
          · rw [List.length_map, List.length_take]
            exact Nat.lt_of_le_of_lt (Nat.min_le_left _ _) (Nat.lt_trans hi' (by decide))
          · rw [upd_same, List.take_succ, ht, List.map_append]
            rfl
        · rintro H1 ⟨hA, sm⟩
          refine ⟨D, _, rfl, .inl (.inl hA), rfl, _, _, rfl, _, _, rfl, _, _, rfl, _, _, rfl, rfl, ?_⟩
          obtain ⟨oa, ob, oc, oe⟩ : a1.Ok ∧ b1.Ok ∧ c1.Ok ∧ e1.Ok := ok
          have hdd : (Tr.cho a1 b1 c1 e1).deep = 1 + max (max a1.deep b1.deep) (max c1.deep e1.deep) := rfl
          have t1 := text_small oa (by omega)
          have t2 := text_small ob (by omega)
          have t3 := text_small oc (by omega)
          have t4 := text_small oe (by omega)
          have k0 : (Str.empty).length = 0 := rfl
          have k1 : ("(" : Str).length = 1 := by decide +kernel
          have k2 : ("=" : Str).length = 1 := by decide +kernel
          have k3 : ("?" : Str).length = 1 := by decide +kernel
          have k4 : (":" : Str).length = 1 := by decide +kernel
          have k5 : (")" : Str).length = 1 := by decide +kernel
          have sl := PySem.sizeLine_eq
          have L : ∀ z : Str, z.length ≤ 1000 → z.length ≤ sizeLine := fun z h => by omega
          refine ⟨_, rfl, L _ (by simp only [len_app]; omega), _, rfl, .inl ⟨_, rfl, L _ (by omega), _, rfl, L _ (by simp only [len_app]; omega), _, rfl, L _ (by simp only [len_app]; omega), ?_⟩⟩
          refine ⟨_, rfl, .inl ⟨_, rfl, L _ (by omega), _, rfl, L _ (by simp only [len_app]; omega), _, rfl, L _ (by simp only [len_app]; omega), ?_⟩⟩
          refine ⟨_, rfl, .inl ⟨_, rfl, L _ (by omega), _, rfl, L _ (by simp only [len_app]; omega), _, rfl, L _ (by simp only [len_app]; omega), ?_⟩⟩
          refine ⟨_, rfl, .inl ⟨_, rfl, L _ (by omega), _, rfl, L _ (by simp only [len_app]; omega), _, rfl, L _ (by simp only [len_app]; omega), ?_⟩⟩
          rw [join_text]
          exact q _ sm
end
end Z
set_option maxRecDepth 100000
set_option maxHeartbeats 4000000
namespace Z
open PySem PySem.Spec PyProof.Rows L2
theorem has_kids {p a b c e : Tr} : p.has (.cho a b c e) = (decide (p = .cho a b c e) || [a, b, c, e].any p.has) := by
  simp [Tr.has, List.any_cons]
theorem any_take {α : Type} {l : List α} {f : α → Bool} {i : Nat} {x : α} (h : l[i]? = some x) : (l.take (i + 1)).any f = ((l.take i).any f || f x) := by
  rw [List.take_succ, h, List.any_append]
  simp
section
variable {P : Program} {w : World} {K : PySem.W.Frag} {mg : Str → Option Value} {base : Heap} {a : Ad}
def spHas (K : PySem.W.Frag) (n : Nat) : Sp := fun vs H Q _ => ∃ (v x : V) (p t : Tr), vs = [v, x] ∧ Dp K H v p.d ∧ Dp K H x t.d ∧ p.Fine ∧ t.Fine ∧ t.deep ≤ n ∧ ∀ H', Same H H' → Q (.bl (p.has t)) H'
theorem ok_stands (T : Tx P K mg a) : ∀ n : Nat, FnOk P w K mg base CX0 (n + 1) a.f_stands_in a.d_stands_in ["plan", "whole"] (spHas K n)
  | 0 => fnNo fun vs H Q E ⟨v, x, p, t, _, _, _, _, _, h, _⟩ => by
    have := deep_pos t
    omega
  | n + 1 => by
    have IH : FnOk P w K mg base CX0 (n + 1) a.f_stands_in a.d_stands_in ["plan", "whole"] (spHas K n) := ok_stands T n
    refine T.stands_in.fn.ok sc_stands_in (fun vs H Q E h => ?_) (fun cdv A outer s H vs Q E hr h => ?_)
    · obtain ⟨v, x, p, t, rfl, _⟩ := h
      rfl
    · obtain ⟨v, x, p, t, rfl, hv, hx, fp, ft, hd, q⟩ := h
      have nd := sc_stands_in.nd
      refine ⟨_, (pss_cons (ps_if (pt_cmpR (op_eqX hr) (pv 0) (pv 1) (nomark _)) (pss_one (ps_ret pe_bl)) pss_nil)
        (pss_one (ps_ret (pe_and (cb_isi T.bi (pa_cons (pv 1) (pa_cons (gl_ty rfl T.bi.tuple PyProof.Rows.boot_tuple) pa_nil))) (pe_one (pe_cmpR (op_neX hr) (pe_lc (own := [("part", 2)]) (by rfl) nd (pi_tup (pv 1)) (blkOk_by (own := [("part", 2)]) (N := ["plan", "whole", "part"]) (sc := defScope s_stands_in) (by decide +kernel)) (fun _ _ _ _ _ => (pg_name (i := 2) nd rfl (Or.inl rfl))) (fun _ _ _ _ _ => pts_one (pt_val (pe_cf T.stands_in IH hr (pa_cons (pv 0) (pa_cons (pv 2) pa_nil))))) (fun _ _ _ _ _ => (pv 2))) (pe_lst pa_nil) (nomark _))))))), ?_⟩
      refine ⟨_, rfl, _, rfl, eqT hv hx fp ft ?_⟩
      refine ⟨_, rfl, ?_⟩
      by_cases e : p = t
      · rw [decide_eq_true e]
        have : p.has t = true := by
          subst e
          cases p <;> simp [Tr.has]
        rw [this] at q
        exact q _ fun _ _ e => e
      · rw [decide_eq_false e]
        refine ⟨_, rfl, isiTr hx ?_⟩
        cases t with
        | con m =>
          have : p.has (.con m) = false := by simp [Tr.has, e]
          rw [this] at q
          exact ⟨_, rfl, q _ fun _ _ e => e⟩
        | var x =>
          have : p.has (.var x) = false := by simp [Tr.has, e]
          rw [this] at q
          exact ⟨_, rfl, q _ fun _ _ e => e⟩
        | cho a1 b1 c1 e1 =>
          refine ⟨_, rfl, ?_⟩
          obtain ⟨y, v1, v2, v3, v4, rfl, sq, h1, h2, h3, h4⟩ := tr_cho hx
          rw [has_kids, decide_eq_false e, Bool.false_or] at q
          refine ⟨_, rfl, y, rfl, ⟨_, sq⟩, fun D hD => ?_⟩
          refine lc_it (walk_tup (xs := [v1, v2, v3, v4])) (fun i H' => ∃ acc : List V, H' D = some (.lst acc) ∧ Same H H' ∧ acc.length ≤ i ∧ (!acc.isEmpty) = ([a1, b1, c1, e1].take i).any p.has) ⟨[], upd_same, sNew hD, Nat.le_refl _, rfl⟩ (fun _ _ _ ⟨_, _, sm, _⟩ => SqT.same sm sq) ?_ ?_
          · rintro i x H1 H1' hi ⟨acc, hA, sm, ln, em⟩ ⟨rfl, hx⟩
            obtain ⟨t, ht, hdt⟩ := get4 (K := K) (H := H) hx h1 h2 h3 h4
            have hi' : i < 4 := hi
            have hk := kid_deep ht
            refine ⟨rfl, _, rfl, _, rfl, v, x, p, t, rfl, tr_same sm hv, tr_same sm hdt, fp, ⟨kid_ok ht ft.1, by have := ft.2; omega⟩, by omega, fun H2 s2 => ?_⟩
            refine ⟨_, rfl, ?_⟩
            cases hb : p.has t with
            | true =>
              refine ⟨_, rfl, acc, s2 _ _ hA, Nat.lt_of_le_of_lt ln (Nat.lt_trans hi' (by decide)), acc ++ [x], upd_same, sUpd hD (sm.trans s2), by rw [List.length_append]; exact Nat.succ_le_succ ln, ?_⟩
              rw [any_take ht, hb]
              simp
            | false =>
              refine ⟨acc, s2 _ _ hA, sm.trans s2, Nat.le_succ_of_le ln, ?_⟩
              rw [any_take ht, hb, em, Bool.or_false]
          · rintro H1 ⟨acc, hA, sm, ln, em⟩
            refine ⟨Nat.zero_le _, fun b hb => ?_⟩
            refine neL0 (.inl (.inl (by rw [upd_ne (ne_of_none hA hb)]; exact hA))) upd_same ?_
            rw [em]
            exact q _ (sm.trans (sNew hb))
def TermAt (K : PySem.W.Frag) (C : Addr) (H : Hp) (p : Addr) (t : Tr) : Prop := ∃ (dx : Addr) (u : V), H p = some (.ins C dx [("tree", u)]) ∧ Dp K H u t.d ∧ t.Fine
theorem TermAt.same {C : Addr} {H H' : Hp} {p : Addr} {t : Tr} (e : Same H H') (h : TermAt K C H p t) : TermAt K C H' p t := by
  obtain ⟨dx, u, h1, h2, h3⟩ := h
  exact ⟨dx, u, e _ _ h1, tr_same e h2, h3⟩
inductive PO (K : PySem.W.Frag) (C : Addr) (H : Hp) : V → Option Tr → Prop
  | str (z : Str) (h : z.length ≤ sizeLine) : PO K C H (.str z) (planOf z)
  | own {p : Addr} {t : Tr} (h : TermAt K C H p t) : PO K C H (.ref p) (some t)
  | int (n : Int) : PO K C H (.int n) (if 0 ≤ n ∧ n ≤ 9 then some (.con n) else none)
  | oth {x : V} {ty : String} {r1 r2 : Bool} (h : TyX K H x (.type ty)) (k1 : kitB ty "int" = some r1) (k2 : kitB ty "bool" = some r2) (e : (r1 && !r2) = false) (k3 : kitB ty "str" = some false) (k4 : PySem.W.kitOne K (.type ty) (.ref C) = some false) : PO K C H x none
def GotT (K : PySem.W.Frag) (H : Hp) (v : V) : Option Tr → Prop
  | none => v = .non
  | some t => Dp K H v t.d
def spPlanOf (K : PySem.W.Frag) (C : Addr) : Sp := fun vs H Q _ => ∃ (x : V) (r : Option Tr), vs = [x] ∧ PO K C H x r ∧ ∀ v H', Same H H' → GotT K H' v r → Q v H'
theorem tyTerm (T : Tx P K mg a) {H : Hp} {p dx : Addr} {fs : List (Str × V)} (h : H p = some (.ins a.C_Term dx fs)) : TyX K H (.ref p) (.ref a.C_Term) := .base (.ins h T.c_Term T.ty_Term T.tn T.tt T.mo_Term)
theorem ok_plan_of (T : Tx P K mg a) : FnOk P w K mg base CX0 6 a.f_plan_of a.d_plan_of ["value"] (spPlanOf K a.C_Term) := by
  have F1 : FnOk P w K mg base CX0 2 a.f_is_number a.d_is_number ["value", "low", "high"] (spNumber K) := ok_number T
  have F2 : FnOk P w K mg base CX0 4 a.f_plan_at a.d_plan_at ["text", "at", "deep"] (spPlanAt K 3) := ok_plan_at T 3
  refine T.plan_of.fn.ok sc_plan_of (fun vs H Q E h => ?_) (fun cdv A outer s H vs Q E hr h => ?_)
  · obtain ⟨x, r, rfl, _⟩ := h
    rfl
  · obtain ⟨x, r, rfl, hp, q⟩ := h
    have nd := sc_plan_of.nd
    refine ⟨_, (pss_cons (ps_if (pt_val (cb_isi T.bi (pa_cons (pv 0) (pa_cons (pe_gr T.g_Term) pa_nil)))) (pss_one (ps_ret (pe_fld (pv 0) rfl))) pss_nil)
      (pss_cons (ps_if (pt_val (pe_cf T.is_number F1 (hr.mono (by decide)) (pa_cons (pv 0) (pa_cons pe_int (pa_cons (pe_gi T.v_MOST_CONSTANT) pa_nil))))) (pss_one (ps_ret (pv 0))) pss_nil)
      (pss_cons (ps_if (pt_not (pt_val (cb_isi T.bi (pa_cons (pv 0) (pa_cons (gl_ty rfl T.bi.str PyProof.Rows.boot_str) pa_nil))))) (pss_one (ps_ret pe_non)) pss_nil)
      (pss_cons (ps_set (i := 1) nd rfl (Or.inl rfl) (pe_cf T.plan_at F2 (hr.mono (by decide)) (pa_cons (pv 0) (pa_cons pe_int (pa_cons (pe_gi T.v_MOST_DEPTH) pa_nil)))))
      (pss_cons (ps_if (PW.pt (pw_or (pt_cmp (pc_isN (pv 1))) (pw_or1 (pt_cmpR (op_neX hr) (pe_ix ix_A (pv 1) pe_int (fun _ _ => rfl)) (cb_len T.bi (pa_cons (pv 0) pa_nil)) (nomark _))))) (pss_one (ps_ret pe_non)) pss_nil)
      (pss_one (ps_ret (pe_ix ix_A (pv 1) pe_int (fun _ _ => rfl))))))))), ?_⟩
    have rf : Same H H := fun _ _ e => e
    cases hp with
    | own h =>
      rename_i p t
      obtain ⟨dx, u, h1, h2, h3⟩ := h
      refine ⟨_, rfl, isiOwn (tyTerm T h1) T.kit_Term ?_⟩
      refine ⟨_, rfl, ?_⟩
      exact ⟨_, rfl, p, a.C_Term, dx, _, u, rfl, h1, T.c_Term, T.no_Term_tree, rfl, q _ _ rf h2⟩
    | int n =>
      refine ⟨_, rfl, isiOwn (.base (.int n)) T.kit_Term_int ?_⟩
      refine ⟨_, rfl, ?_⟩
      refine ⟨_, rfl, _, 0, 9, rfl, .inl ⟨n, rfl, ?_⟩⟩
      refine ⟨_, rfl, ?_⟩
      by_cases h : 0 ≤ n ∧ n ≤ 9
      · rw [decide_eq_true h.1, decide_eq_true h.2]
        rw [if_pos h] at q
        exact ⟨_, rfl, q _ _ rf (.int n)⟩
      · rw [if_neg h] at q
        have : (decide (0 ≤ n) && decide (n ≤ 9)) = false := by
          rw [← Bool.decide_and]
          exact decide_eq_false h
        rw [this]
        refine ⟨_, rfl, isiTy (.base (.int n)) (by decide +kernel : kitB "int" "str" = some false) ?_⟩
        exact ⟨_, rfl, q _ _ rf rfl⟩
    | oth h k1 k2 e k3 k4 =>
      refine ⟨_, rfl, isiOwn h k4 ?_⟩
      refine ⟨_, rfl, ?_⟩
      refine ⟨_, rfl, _, 0, 9, rfl, .inr ⟨_, _, _, h, k1, k2, e, ?_⟩⟩
      refine ⟨_, rfl, ?_⟩
      refine ⟨_, rfl, isiTy h k3 ?_⟩
      exact ⟨_, rfl, q _ _ rf rfl⟩
    | str z hz =>
      refine ⟨_, rfl, isiOwn (.base (.str z)) T.kit_Term_str ?_⟩
      refine ⟨_, rfl, ?_⟩
      refine ⟨_, rfl, _, 0, 9, rfl, .inr ⟨"str", false, false, .base (.str z), k_si, by decide +kernel, rfl, ?_⟩⟩
      refine ⟨_, rfl, ?_⟩
      refine ⟨_, rfl, isiTy (.base (.str z)) k_ss ?_⟩
      refine ⟨_, rfl, ?_⟩
      refine ⟨_, rfl, z, 0, rfl, Nat.zero_le _, hz, by decide, fun v H1 s1 got => ?_⟩
      rw [List.drop_zero] at got
      unfold planOf at q
      refine ⟨_, rfl, ?_⟩
      cases hf : pl 3 (ls z) with
      | none =>
        rw [hf] at got q
        obtain rfl : v = .non := got
        refine ⟨_, rfl, ?_⟩
        exact q _ _ s1 rfl
      | some tr =>
        obtain ⟨t, r⟩ := tr
        rw [hf] at got q
        obtain ⟨pf, j, u, rfl, hj, hr', hpf, hu⟩ := got
        refine ⟨_, rfl, ?_⟩
        refine ⟨_, rfl, ixT (i := 1) (.inl (.inl hpf)) rfl ?_⟩
        refine ⟨_, rfl, lenS hz ?_⟩
        refine neI ?_
        refine ⟨_, rfl, ?_⟩
        by_cases hl : j = z.length
        · rw [decide_eq_true (show (j : Int) = (z.length : Int) by omega)]
          have : r = [] := by rw [← hr']; exact List.drop_eq_nil_of_le (by rw [ls_len]; omega)
          subst this
          exact ⟨_, rfl, ixT (i := 0) (.inl (.inl hpf)) rfl (q _ _ s1 hu)⟩
        · rw [decide_eq_false (show ¬ (j : Int) = (z.length : Int) by omega)]
          cases r with
          | nil =>
            have := congrArg List.length hr'
            rw [List.length_drop, ls_len] at this
            simp at this
            omega
          | cons c r => exact q _ _ s1 rfl
end
end Z
set_option maxRecDepth 100000
set_option maxHeartbeats 4000000
namespace Z
open PySem PySem.Spec PyProof.Rows L2
section
variable {P : Program} {w : World} {K : PySem.W.Frag} {mg : Str → Option Value} {base : Heap} {a : Ad}
theorem plp_fine {d : Nat} {f : List Nat → Option (Tr × List Nat)} (hf : ∀ l t r, f l = some (t, r) → t.Ok ∧ t.deep ≤ d) : ∀ {ss l ts z}, plp f ss l = some (ts, z) → ∀ t ∈ ts, t.Ok ∧ t.deep ≤ d
  | [], l, ts, z, h => by
    simp [plp] at h
    obtain ⟨rfl, _⟩ := h
    intro t ht
    cases ht
  | s :: ss, l, ts, z, h => by
    unfold plp at h
    split at h
    · rename_i t c q e
      split at h
      · split at h
        · rename_i us y e2
          cases h
          intro t' ht
          rcases List.mem_cons.mp ht with rfl | ht
          · exact hf _ _ _ e
          · exact plp_fine hf e2 t' ht
        · cases h
      · cases h
    · cases h
theorem pl_fine : ∀ (d : Nat) (l : List Nat) (t : Tr) (r : List Nat), pl d l = some (t, r) → t.Ok ∧ t.deep ≤ d
  | 0, l, t, r, h => by cases h
  | d + 1, [], t, r, h => by cases h
  | d + 1, c :: q, t, r, h => by
    unfold pl at h
    split at h
    · rename_i hc
      cases h
      unfold isDB at hc
      simp at hc
      exact ⟨⟨by omega, by omega⟩, Nat.le_add_left 1 d⟩
    · split at h
      · rename_i hw
        cases h
        have := wordB_iff (w := tx ((c :: q).takeWhile isLB))
        rw [ls_tx] at this
        exact ⟨this.mp hw, Nat.le_add_left 1 d⟩
      · split at h
        · cases h
        · unfold plx at h
          split at h
          · rename_i a b c e z e2
            cases h
            have hh := plp_fine (fun l t r => pl_fine d l t r) e2
            have ha := hh a (by simp)
            have hb := hh b (by simp)
            have hc := hh c (by simp)
            have he := hh e (by simp)
            refine ⟨⟨ha.1, hb.1, hc.1, he.1⟩, ?_⟩
            show 1 + max (max a.deep b.deep) (max c.deep e.deep) ≤ d + 1
            omega
          · cases h
theorem planOf_fine {z : Str} {t : Tr} (h : planOf z = some t) : t.Ok ∧ t.deep ≤ 3 := by
  unfold planOf at h
  split at h
  · rename_i u e
    cases h
    exact pl_fine 3 _ _ _ e
  · cases h
theorem po_fine {K : PySem.W.Frag} {C : Addr} {H : Hp} {x : V} {t : Tr} (h : PO K C H x (some t)) : t.Fine := by
  generalize hr : some t = r at h
  cases h with
  | str z hz =>
    have := planOf_fine hr.symm
    exact ⟨this.1, by omega⟩
  | own h =>
    cases hr
    obtain ⟨_, _, _, _, f⟩ := h
    exact f
  | int n =>
    split at hr
    · rename_i hn
      cases hr
      exact ⟨hn, show 1 ≤ 60 by decide⟩
    · cases hr
  | oth => cases hr
theorem TK.ins {H : Hp} {p C dx : Addr} {fs : List (Str × V)} {o : HO} (h : H p = some (.ins C dx fs)) : TK H (upd H p o) :=
  ⟨fun b ys e => by rw [upd_ne (ne_of e h (by intro z; cases z))]; exact e, fun b o u e => by rw [upd_ne (ne_of e h (by intro z; cases z))]; exact e⟩
def spInit (K : PySem.W.Frag) (C X : Addr) : Sp := fun vs H Q E => ∃ (p dx : Addr) (x : V) (r : Option Tr), vs = [.ref p, x] ∧ H p = some (.ins C dx []) ∧ PO K C H x r ∧
  (∀ t v H', r = some t → But p H H' → H' p = some (.ins C dx [("tree", v)]) → Dp K H' v t.d → Q .non H') ∧ (r = none → ∀ d H1, Same H H1 → H1 d = none → E (.ref X) (some d) (upd H1 d (.xd [("value", x)])))
theorem ok_init (T : Tx P K mg a) : FnOk P w K mg base (L2.CX P w) 7 a.f_Term___init__ a.d_Term___init__ ["self", "value"] (spInit K a.C_Term a.C_NoTerm) := by
  have F1 : FnOk P w K mg base CX0 6 a.f_plan_of a.d_plan_of ["value"] (spPlanOf K a.C_Term) := ok_plan_of T
  refine T.Term___init__.okX sc_Term___init__ (fun vs H Q E h => ?_) (fun cdv A outer s H vs Q E hr h => ?_)
  · obtain ⟨p, dx, x, r, rfl, _⟩ := h
    rfl
  · obtain ⟨p, dx, x, r, rfl, hp, po, q1, q2⟩ := h
    have nd := sc_Term___init__.nd
    refine ⟨_, (pss_cons (ps_set (i := 2) nd rfl (Or.inl rfl) (pe_cf T.plan_of F1 hr (pa_cons (pv 1) pa_nil)))
      (pss_cons (ps_if (pt_cmp (pc_isN (pv 2))) (pss_one (ps_raiseT (takes_of rfl rfl rfl rfl) T.e_NoTerm hr (pa_cons (pv 1) pa_nil))) pss_nil)
      (pss_one (ps_fld (pv 0) (pv 2) rfl)))), ?_⟩
    refine ⟨_, rfl, _, r, rfl, po, fun v H1 s1 got => ?_⟩
    refine ⟨_, rfl, ?_⟩
    cases r with
    | none =>
      obtain rfl : v = .non := got
      refine ⟨_, rfl, ?_⟩
      exact ⟨_, rfl, x, rfl, fun d hd => q2 rfl d H1 s1 hd⟩
    | some t =>
      have nv : decide (v = V.non) = false := by
        refine decide_eq_false ?_
        rintro rfl
        cases t <;> (unfold GotT Tr.d at got; cases got)
      refine ⟨_, rfl, ?_⟩
      rw [nv]
      have hp1 := s1 _ _ hp
      refine ⟨_, rfl, _, rfl, p, a.C_Term, dx, [], rfl, hp1, T.c_Term, T.no_Term_tree, (by decide), ?_⟩
      refine q1 t v _ rfl (fun b o hb e => by rw [upd_ne hb]; exact s1 b o e) upd_same ?_
      exact tr_tk (TK.ins hp1) t got
def spWithin (K : PySem.W.Frag) (C X : Addr) : Sp := fun vs H Q E => ∃ (p : Addr) (x : V) (s : Tr), vs = [.ref p, x] ∧ TermAt K C H p s ∧
  ((∃ q t, x = .ref q ∧ TermAt K C H q t ∧ t.deep ≤ 9 ∧ ∀ H', Same H H' → Q (.bl (s.has t)) H') ∨ (∃ ty, TyX K H x (.type ty) ∧ PySem.W.kitOne K (.type ty) (.ref C) = some false ∧ ∀ d, H d = none → E (.ref X) (some d) (upd H d (.xd [("value", x)]))))
theorem ok_within (T : Tx P K mg a) : FnOk P w K mg base (L2.CX P w) 11 a.f_Term_within a.d_Term_within ["self", "other"] (spWithin K a.C_Term a.C_NoTerm) := by
  have F1 : FnOk P w K mg base CX0 10 a.f_stands_in a.d_stands_in ["plan", "whole"] (spHas K 9) := ok_stands T 9
  refine T.Term_within.okX sc_Term_within (fun vs H Q E h => ?_) (fun cdv A outer s H vs Q E hr h => ?_)
  · obtain ⟨p, x, s, rfl, _⟩ := h
    rfl
  · obtain ⟨p, x, s, rfl, hp, h⟩ := h
    have nd := sc_Term_within.nd
    refine ⟨_, (pss_cons (ps_if (pt_not (pt_val (cb_isi T.bi (pa_cons (pv 1) (pa_cons (pe_gr T.g_Term) pa_nil))))) (pss_one (ps_raiseT (takes_of rfl rfl rfl rfl) T.e_NoTerm hr (pa_cons (pv 1) pa_nil))) pss_nil)
      (pss_one (ps_ret (pe_cf T.stands_in F1 hr (pa_cons (pe_fld (pv 0) rfl) (pa_cons (pe_fld (pv 1) rfl) pa_nil)))))), ?_⟩
    obtain ⟨dx, u, h1, h2, h3⟩ := hp
    rcases h with ⟨q, t, rfl, ⟨dy, v, g1, g2, g3⟩, hd, k⟩ | ⟨ty, ht, hk, k⟩
    · refine ⟨_, rfl, isiOwn (tyTerm T g1) T.kit_Term ?_⟩
      refine ⟨_, rfl, ?_⟩
      refine ⟨_, rfl, p, _, dx, _, u, rfl, h1, T.c_Term, T.no_Term_tree, rfl, ?_⟩
      refine ⟨_, rfl, q, _, dy, _, v, rfl, g1, T.c_Term, T.no_Term_tree, rfl, ?_⟩
      exact ⟨u, v, s, t, rfl, h2, g2, h3, g3, hd, k⟩
    · refine ⟨_, rfl, isiOwn ht hk ?_⟩
      refine ⟨_, rfl, ?_⟩
      exact ⟨_, rfl, x, rfl, fun d hd => k d hd⟩
def spEqT (K : PySem.W.Frag) (C : Addr) : Sp := fun vs H Q _ => ∃ (p q : Addr) (s t : Tr), vs = [.ref p, .ref q] ∧ TermAt K C H p s ∧ TermAt K C H q t ∧ Q (.bl (decide (s = t))) H
theorem ok_eq (T : Tx P K mg a) : FnOk P w K mg base CX0 1 a.f_Term___eq__ a.d_Term___eq__ ["self", "other"] (spEqT K a.C_Term) := by
  refine T.Term___eq__.ok sc_Term___eq__ (fun vs H Q E h => ?_) (fun cdv A outer s H vs Q E hr h => ?_)
  · obtain ⟨p, x, s, t, rfl, _⟩ := h
    rfl
  · obtain ⟨p, q, s, t, rfl, ⟨dx, u, h1, h2, h3⟩, ⟨dy, v, g1, g2, g3⟩, k⟩ := h
    refine ⟨_, (pss_one (ps_ret (pe_and (cb_isi T.bi (pa_cons (pv 1) (pa_cons (pe_gr T.g_Term) pa_nil))) (pe_one (pe_cmpR (op_eqX hr) (pe_fld (pv 0) rfl) (pe_fld (pv 1) rfl) (nomark _)))))), ?_⟩
    refine ⟨_, rfl, isiOwn (tyTerm T g1) T.kit_Term ?_⟩
    refine ⟨_, rfl, ?_⟩
    refine ⟨_, rfl, p, _, dx, _, u, rfl, h1, T.c_Term, T.no_Term_tree, rfl, ?_⟩
    refine ⟨_, rfl, q, _, dy, _, v, rfl, g1, T.c_Term, T.no_Term_tree, rfl, ?_⟩
    exact eqT h2 g2 h3 g3 k
theorem make_term {H : Hp} {t : Tr} {C X : Addr} {R : VK} {x dx : Addr} (ok : t.Ok) (hd : t.deep ≤ 3) (hx : H x = none) (hdx : H dx = none) (ne : dx ≠ x) (q : ∀ H', Same H H' → TermAt K C H' x t → R .non H') :
    spInit K C X [.ref x, .str t.text] (upd (upd H dx (.own x)) x (.ins C dx [])) R E0 := by
  have hz : t.text.length ≤ sizeLine := Nat.le_trans (text_small ok hd) (by decide)
  refine ⟨x, dx, _, _, rfl, upd_same, .str _ hz, fun t' v H' e b h1 h2 => ?_, fun e => ?_⟩
  · rw [plan_text ok hd] at e
    cases e
    refine q H' (fun c o hc => b c o (ne_of_none hc hx) ?_) ⟨dx, v, h1, h2, ok, by omega⟩
    rw [upd_ne (ne_of_none hc hx), upd_ne (ne_of_none hc hdx)]
    exact hc
  · rw [plan_text ok hd] at e
    cases e
def spParts (K : PySem.W.Frag) (C : Addr) : Sp := fun vs H Q _ => ∃ (p : Addr) (t : Tr), vs = [.ref p] ∧ TermAt K C H p t ∧ t.deep ≤ 3 ∧
  ∀ l (ps : List Addr) H', Same H H' → H' l = some (.lst (ps.map V.ref)) → ps.length = t.kids.length → (∀ (i : Nat) (q : Addr) (k : Tr), ps[i]? = some q → t.kids[i]? = some k → TermAt K C H' q k) → Q (.ref l) H'
theorem ok_parts (T : Tx P K mg a) : FnOk P w K mg base CX0 9 a.f_Term_parts a.d_Term_parts ["self"] (spParts K a.C_Term) := by
  have F1 : FnOk P w K mg base CX0 4 a.f_text_of a.d_text_of ["plan"] (spText K 3) := ok_text T 3
  have F2 : FnOk P w K mg base (L2.CX P w) 7 a.f_Term___init__ a.d_Term___init__ ["self", "value"] (spInit K a.C_Term a.C_NoTerm) := ok_init T
  refine T.Term_parts.ok sc_Term_parts (fun vs H Q E h => ?_) (fun cdv A outer s H vs Q E hr h => ?_)
  · obtain ⟨p, t, rfl, _⟩ := h
    rfl
  · obtain ⟨p, t, rfl, ⟨dx, u, h1, h2, h3⟩, hd, k⟩ := h
    have nd := sc_Term_parts.nd
    refine ⟨_, (pss_cons (ps_if (pt_not (pt_val (cb_isi T.bi (pa_cons (pe_fld (pv 0) rfl) (pa_cons (gl_ty rfl T.bi.tuple PyProof.Rows.boot_tuple) pa_nil))))) (pss_one (ps_ret (pe_lst pa_nil))) pss_nil)
      (pss_one (ps_ret (pe_lc (own := [("part", 1)]) (by rfl) nd (pi_tup (pe_fld (pv 0) rfl)) (blkOk_by (own := [("part", 1)]) (N := ["self", "part"]) (sc := defScope s_Term_parts) (by decide +kernel)) (fun _ _ _ _ _ => (pg_name (i := 1) nd rfl (Or.inl rfl))) (fun _ _ _ _ _ => pts_nil)
        (fun _ _ _ _ _ => (pe_make T.mk_Term F2 hr rfl T.g_Term T.b_Term___init__ .nil passL (pa_cons (pe_cf T.text_of F1 (hr.mono (by decide)) (pa_cons (pv 1) pa_nil)) pa_nil))))))), ?_⟩
    refine ⟨_, rfl, p, _, dx, _, u, rfl, h1, T.c_Term, T.no_Term_tree, rfl, isiTr h2 ?_⟩
    refine ⟨_, rfl, ?_⟩
    cases t with
    | con m => exact ⟨Nat.zero_le _, fun l hl => k l [] _ (sNew hl) upd_same rfl fun i q k h _ => by simp at h⟩
    | var m => exact ⟨Nat.zero_le _, fun l hl => k l [] _ (sNew hl) upd_same rfl fun i q k h _ => by simp at h⟩
    | cho a1 b1 c1 e1 =>
      obtain ⟨y, v1, v2, v3, v4, rfl, sq, g1, g2, g3, g4⟩ := tr_cho h2
      refine ⟨_, rfl, p, _, dx, _, _, rfl, h1, T.c_Term, T.no_Term_tree, rfl, y, rfl, ⟨_, sq⟩, fun D hD => ?_⟩
      refine lc_it (walk_tup (xs := [v1, v2, v3, v4])) (fun i H' => ∃ ps : List Addr, H' D = some (.lst (ps.map V.ref)) ∧ Same H H' ∧ ps.length = i ∧ (∀ (j : Nat) (q : Addr) (k : Tr), ps[j]? = some q → [a1, b1, c1, e1][j]? = some k → TermAt K a.C_Term H' q k))
        ⟨[], upd_same, sNew hD, rfl, fun j q k h _ => by simp at h⟩ (fun _ _ _ ⟨_, _, sm, _⟩ => SqT.same sm sq) ?_ ?_
      · rintro i x H1 H1' hi ⟨ps, hA, sm, ln, al⟩ ⟨rfl, hx⟩
        obtain ⟨t, ht, hdt⟩ := get4 (K := K) (H := H) hx g1 g2 g3 g4
        have hk := kid_deep ht
        have ok := kid_ok ht h3.1
        have hi' : i < 4 := hi
        refine ⟨rfl, _, rfl, x, t, rfl, tr_same sm hdt, ok, by omega, by decide, fun H2 s2 => ?_⟩
        intro x2 dx2 n1 n2 ne
        refine make_term ok (by omega) n1 n2 ne fun H3 s3 tq => ⟨rfl, ?_⟩
        have sA : Same H1' H3 := s2.trans s3
        refine ⟨_, sA _ _ hA, by rw [List.length_map, ln]; exact Nat.lt_trans hi' (by decide), ps ++ [x2], by rw [upd_same, List.map_append]; rfl, sUpd hD (sm.trans sA), by rw [List.length_append, ln]; rfl, ?_⟩
        have up : ∀ {q' : Addr} {t' : Tr}, TermAt K a.C_Term H3 q' t' → TermAt K a.C_Term (upd H3 D (.lst (ps.map V.ref ++ [V.ref x2]))) q' t' := fun {q' t'} h => by
          obtain ⟨dz, uz, z1, z2, z3⟩ := h
          have hDl := sA _ _ hA
          exact ⟨dz, uz, by rw [upd_ne (ne_of z1 hDl (by intro z; cases z))]; exact z1, tr_tk (TK.lst hDl) t' z2, z3⟩
        intro j q' k' hj hk'
        by_cases hjl : j < ps.length
        · rw [List.getElem?_append_left hjl] at hj
          exact up ((al j q' k' hj hk').same sA)
        · have : j = ps.length := by
            have := (List.getElem?_eq_some_iff.mp hj).1
            rw [List.length_append, List.length_singleton] at this
            omega
          subst this
          rw [List.getElem?_append_right (Nat.le_refl _), Nat.sub_self] at hj
          cases hj
          rw [ln, ht] at hk'
          cases hk'
          exact up tq
      · rintro H1 ⟨ps, hA, sm, ln, al⟩
        exact k D ps H1 sm hA ln al
end
end Z
set_option maxRecDepth 100000
set_option maxHeartbeats 4000000
namespace Z
open PySem PySem.Spec PyProof.Rows L2
section
variable {P : Program} {w : World} {K : PySem.W.Frag} {mg : Str → Option Value} {base : Heap} {a : Ad}
theorem get4T {p1 p2 p3 p4 : Addr} {x : V} {t1 t2 t3 t4 : Tr} {i : Nat} {C : Addr} {H : Hp} (h : [V.ref p1, V.ref p2, V.ref p3, V.ref p4][i]? = some x) (h1 : TermAt K C H p1 t1) (h2 : TermAt K C H p2 t2) (h3 : TermAt K C H p3 t3) (h4 : TermAt K C H p4 t4) : ∃ q t, x = .ref q ∧ [t1, t2, t3, t4][i]? = some t ∧ TermAt K C H q t := by
  match i, h with
  | 0, h => exact ⟨p1, t1, by cases h; rfl, rfl, h1⟩
  | 1, h => exact ⟨p2, t2, by cases h; rfl, rfl, h2⟩
  | 2, h => exact ⟨p3, t3, by cases h; rfl, rfl, h3⟩
  | 3, h => exact ⟨p4, t4, by cases h; rfl, rfl, h4⟩
theorem none_tr {H : Hp} {v : V} {t : Tr} (h : Dp K H v t.d) : decide (v = V.non) = false := by
  refine decide_eq_false ?_
  rintro rfl
  cases t <;> (unfold Tr.d at h; cases h)
def spChoice (K : PySem.W.Frag) (C : Addr) : Sp := fun vs H Q _ => ∃ (p1 p2 p3 p4 : Addr) (t1 t2 t3 t4 : Tr), vs = [.ref p1, .ref p2, .ref p3, .ref p4] ∧ TermAt K C H p1 t1 ∧ TermAt K C H p2 t2 ∧ TermAt K C H p3 t3 ∧ TermAt K C H p4 t4 ∧ (Tr.cho t1 t2 t3 t4).deep ≤ 3 ∧
  ∀ q H', Same H H' → TermAt K C H' q (.cho t1 t2 t3 t4) → Q (.ref q) H'
theorem ok_choice (T : Tx P K mg a) : FnOk P w K mg base (L2.CX P w) 9 a.f_Term_choice a.d_Term_choice ["one", "other", "same", "unlike"] (spChoice K a.C_Term) := by
  have F0 : FnOk P w K mg base CX0 6 a.f_plan_of a.d_plan_of ["value"] (spPlanOf K a.C_Term) := ok_plan_of T
  have F1 : FnOk P w K mg base CX0 4 a.f_text_of a.d_text_of ["plan"] (spText K 3) := ok_text T 3
  have F2 : FnOk P w K mg base (L2.CX P w) 7 a.f_Term___init__ a.d_Term___init__ ["self", "value"] (spInit K a.C_Term a.C_NoTerm) := ok_init T
  refine T.Term_choice.okX sc_Term_choice (fun vs H Q E h => ?_) (fun cdv A outer s H vs Q E hr h => ?_)
  · obtain ⟨p1, p2, p3, p4, t1, t2, t3, t4, rfl, _⟩ := h
    rfl
  · obtain ⟨p1, p2, p3, p4, t1, t2, t3, t4, rfl, h1, h2, h3, h4, hd, k⟩ := h
    have nd := sc_Term_choice.nd
    refine ⟨_, (pss_cons (ps_set (i := 4) nd rfl (Or.inl rfl) (pe_lst pa_nil))
      (pss_cons (ps_for (passes_of rfl) rfl (pi_tup (pe_tup (pa_cons (pv 0) (pa_cons (pv 1) (pa_cons (pv 2) (pa_cons (pv 3) pa_nil)))))) (pg_name (i := 5) nd rfl (Or.inl rfl))
        (pss_cons (ps_set (i := 6) nd rfl (Or.inl rfl) (pe_cf T.plan_of F0 (hr.mono (by decide)) (pa_cons (pv 5) pa_nil)))
        (pss_cons (ps_if (pt_cmp (pc_isN (pv 6))) (pss_one ps_no) pss_nil)
        (pss_one (ps_expr (pe_bm PySem.F.plainAttrs_list PySem.F.slot_list_append PySem.F.type_list_append mt_append (pv 4) (pa_cons (pv 6) pa_nil)))))))
      (pss_one (ps_ret (pe_make T.mk_Term F2 hr rfl T.g_Term T.b_Term___init__ .nil passL (pa_cons (pe_cf T.text_of F1 (hr.mono (by decide)) (pa_cons (cb_tuple T.bi (pa_cons (pv 4) pa_nil)) pa_nil)) pa_nil)))))), ?_⟩
    refine ⟨Nat.zero_le _, fun l hl => ?_⟩
    refine ⟨_, rfl, _, rfl, _, rfl, _, rfl, by show 4 ≤ sizeLine; decide, fun p0 hp0 => ?_⟩
    have s1 : Same H (upd (upd H l (.lst [])) p0 (.tup [V.ref p1, .ref p2, .ref p3, .ref p4])) := (sNew hl).trans (sNew hp0)
    have n0 : l ≠ p0 := ne_of_none (H := upd H l (.lst [])) upd_same hp0
    refine ⟨p0, rfl, ⟨_, .inl (.inl upd_same)⟩, ?_⟩
    refine for_it (walk_tup (xs := [V.ref p1, .ref p2, .ref p3, .ref p4])) (fun n σ H' => ∃ (us : List V) (o5 o6 : Option V), σ = [some (.ref p1), some (.ref p2), some (.ref p3), some (.ref p4), some (.ref l), o5, o6] ∧ H' l = some (.lst us) ∧
        DpAll K H' us (([t1, t2, t3, t4].take n).map Tr.d) ∧ us.length = n ∧ Same H H' ∧ H' p0 = some (.tup [V.ref p1, .ref p2, .ref p3, .ref p4]))
      ⟨[], none, none, rfl, by rw [upd_ne n0, upd_same], .nil, rfl, s1, upd_same⟩ (fun n σ H' _ ⟨_, _, _, _, _, _, _, _, hp⟩ => .inl (.inl hp)) ?_ ?_
    · rintro n x σ H2 H2' hn ⟨us, o5, o6, rfl, hL, hD, ln, sm, hP⟩ ⟨rfl, hx⟩
      obtain ⟨q, t, rfl, ht, tq⟩ := get4T (K := K) (C := a.C_Term) hx h1 h2 h3 h4
      refine ⟨_, rfl, _, _, rfl, .own (tq.same sm), fun v H3 s3 got => ?_⟩
      have got' : Dp K H3 v t.d := got
      refine ⟨_, rfl, ?_⟩
      refine ⟨_, rfl, ?_⟩
      rw [none_tr got']
      have hL3 := s3 _ _ hL
      have hn' : n < 4 := hn
      refine ⟨_, rfl, .inl ⟨rfl, us, .inl (.inl hL3)⟩, _, rfl, l, us, v, rfl, rfl, hL3, by rw [ln]; exact Nat.lt_trans hn' (by decide), ?_⟩
      have tkk : TK H3 (upd H3 l (.lst (us ++ [v]))) := TK.lst hL3
      refine ⟨us ++ [v], _, _, rfl, upd_same, ?_, by rw [List.length_append, ln]; rfl, sUpd hl (sm.trans s3), by rw [upd_ne n0.symm]; exact s3 _ _ hP⟩
      rw [List.take_succ, ht]
      exact dpAll_tk (ts := [t1, t2, t3, t4].take n ++ [t]) tkk (by rw [List.map_append]; exact DpAll.app (dpAll_same s3 hD) (.cons got' .nil))
    · rintro σ H2 ⟨us, o5, o6, rfl, hL, hD, ln, sm, hP⟩
      refine ⟨_, rfl, tupL (.inl (.inl hL)) fun p5 H3 n5 s3 hp5 => ?_⟩
      have f1 : t1.Fine := by obtain ⟨_, _, _, _, f⟩ := h1; exact f
      have f2 : t2.Fine := by obtain ⟨_, _, _, _, f⟩ := h2; exact f
      have f3 : t3.Fine := by obtain ⟨_, _, _, _, f⟩ := h3; exact f
      have f4 : t4.Fine := by obtain ⟨_, _, _, _, f⟩ := h4; exact f
      have ok : (Tr.cho t1 t2 t3 t4).Ok := ⟨f1.1, f2.1, f3.1, f4.1⟩
      have hD' : DpAll K H3 us [t1.d, t2.d, t3.d, t4.d] := dpAll_same s3 hD
      have dp : Dp K H3 (.ref p5) (Tr.cho t1 t2 t3 t4).d := .tup (.inl (.inl hp5)) hD'
      refine ⟨_, _, rfl, dp, ok, hd, by decide, fun H4 s4 => ?_⟩
      intro x dx n1 n2 ne
      refine make_term ok hd n1 n2 ne fun H5 s5 tq => ⟨rfl, ?_⟩
      exact k _ _ (((sm.trans s3).trans s4).trans s5) tq
end
end Z
set_option maxRecDepth 100000
set_option maxHeartbeats 4000000
namespace Z
open PySem PySem.Spec PyProof.Rows L2
namespace Tr
def lv : Tr → List V
  | .con n => [.int n]
  | .var w => [.str w]
  | .cho a b c e => a.lv ++ b.lv ++ c.lv ++ e.lv
def ws : Tr → List Str
  | .con _ => []
  | .var w => [w]
  | .cho a b c e => a.ws ++ b.ws ++ c.ws ++ e.ws
def ns : Tr → List Int
  | .con n => [n]
  | .var _ => []
  | .cho a b c e => a.ns ++ b.ns ++ c.ns ++ e.ns
def kind : Tr → Str
  | .con _ => "constant"
  | .var _ => "variable"
  | .cho _ _ _ _ => "choice"
end Tr
def strV : V → Option Str
  | .str z => some z
  | _ => none
def intV : V → Option Int
  | .int z => some z
  | _ => none
theorem lv_ws : ∀ t : Tr, t.lv.filterMap strV = t.ws
  | .con n => rfl
  | .var w => rfl
  | .cho a b c e => by
    unfold Tr.lv Tr.ws
    rw [List.filterMap_append, List.filterMap_append, List.filterMap_append, lv_ws a, lv_ws b, lv_ws c, lv_ws e]
theorem lv_ns : ∀ t : Tr, t.lv.filterMap intV = t.ns
  | .con n => rfl
  | .var w => rfl
  | .cho a b c e => by
    unfold Tr.lv Tr.ns
    rw [List.filterMap_append, List.filterMap_append, List.filterMap_append, lv_ns a, lv_ns b, lv_ns c, lv_ns e]
def Leaf (v : V) : Prop := (∃ z, v = .str z ∧ Word z) ∨ ∃ n, v = .int n ∧ 0 ≤ n ∧ n ≤ 9
theorem lv_leaf : ∀ {t : Tr}, t.Ok → ∀ v ∈ t.lv, Leaf v
  | .con n, ok, v, h => .inr ⟨n, List.mem_singleton.mp h, ok.1, ok.2⟩
  | .var w, ok, v, h => .inl ⟨w, List.mem_singleton.mp h, ok⟩
  | .cho a b c e, ok, v, h => by
    obtain ⟨oa, ob, oc, oe⟩ : a.Ok ∧ b.Ok ∧ c.Ok ∧ e.Ok := ok
    unfold Tr.lv at h
    rw [List.mem_append, List.mem_append, List.mem_append] at h
    rcases h with ((h | h) | h) | h
    · exact lv_leaf oa v h
    · exact lv_leaf ob v h
    · exact lv_leaf oc v h
    · exact lv_leaf oe v h
theorem lv_len : ∀ t : Tr, t.lv.length ≤ 4 ^ (t.deep - 1)
  | .con n => Nat.le_refl _
  | .var w => Nat.le_refl _
  | .cho a b c e => by
    have h1 := lv_len a
    have h2 := lv_len b
    have h3 := lv_len c
    have h4 := lv_len e
    have d1 := deep_pos a
    have d2 := deep_pos b
    have d3 := deep_pos c
    have d4 := deep_pos e
    have hd : (Tr.cho a b c e).deep = 1 + max (max a.deep b.deep) (max c.deep e.deep) := rfl
    generalize em : max (max a.deep b.deep) (max c.deep e.deep) = m at hd
    have up : ∀ {x : Nat}, 1 ≤ x → x ≤ m → 4 ^ (x - 1) ≤ 4 ^ (m - 1) := fun {x} h1 h2 => Nat.pow_le_pow_right (by decide) (by omega)
    have u1 := up d1 (by omega)
    have u2 := up d2 (by omega)
    have u3 := up d3 (by omega)
    have u4 := up d4 (by omega)
    have hm : 1 ≤ m := by omega
    have e4 : 4 ^ ((Tr.cho a b c e).deep - 1) = 4 * 4 ^ (m - 1) := by
      rw [hd, show 1 + m - 1 = (m - 1) + 1 by omega, Nat.pow_succ, Nat.mul_comm]
    rw [e4]
    unfold Tr.lv
    rw [List.length_append, List.length_append, List.length_append]
    omega
theorem lv_16 {t : Tr} (h : t.deep ≤ 3) : t.lv.length ≤ 16 := by
  have h1 := lv_len t
  have h2 : 4 ^ (t.deep - 1) ≤ 4 ^ 2 := Nat.pow_le_pow_right (by decide) (by omega)
  omega
theorem flat_leaf {v : V} (h : Leaf v) : flatV v = true := by
  rcases h with ⟨z, rfl, _⟩ | ⟨n, rfl, _⟩ <;> rfl
theorem ws_len (t : Tr) : t.ws.length ≤ t.lv.length := by
  rw [← lv_ws]
  exact List.length_filterMap_le ..
theorem ns_len (t : Tr) : t.ns.length ≤ t.lv.length := by
  rw [← lv_ns]
  exact List.length_filterMap_le ..
theorem ws_word {t : Tr} (ok : t.Ok) : ∀ z ∈ t.ws, Word z := fun z h => by
  rw [← lv_ws] at h
  obtain ⟨v, hv, e⟩ := List.mem_filterMap.mp h
  rcases lv_leaf ok v hv with ⟨y, rfl, hy⟩ | ⟨n, rfl, _⟩
  · cases e
    exact hy
  · cases e
theorem ns_small {t : Tr} (ok : t.Ok) : ∀ z ∈ t.ns, 0 ≤ z ∧ z ≤ 9 := fun z h => by
  rw [← lv_ns] at h
  obtain ⟨v, hv, e⟩ := List.mem_filterMap.mp h
  rcases lv_leaf ok v hv with ⟨y, rfl, hy⟩ | ⟨n, rfl, hn⟩
  · cases e
  · cases e
    exact hn
theorem sl1k : 1000 ≤ sizeLine := by decide
theorem back_none {H H' : Hp} {q : Addr} (s : Same H H') (n : H' q = none) : H q = none := by
  cases e : H q with
  | none => rfl
  | some o =>
    have := s _ _ e
    rw [n] at this
    cases this
end Z
set_option maxRecDepth 100000
set_option maxHeartbeats 4000000
set_option pp.maxSteps 500
namespace Z
open PySem PySem.Spec PyProof.Rows L2
section
variable {P : Program} {w : World} {K : PySem.W.Frag} {mg : Str → Option Value} {base : Heap} {a : Ad}
def spLeaves (K : PySem.W.Frag) (n : Nat) : Sp := fun vs H Q _ => ∃ (v : V) (t : Tr), vs = [v] ∧ Dp K H v t.d ∧ t.deep ≤ n ∧ t.lv.length ≤ 1000 ∧ ∀ p H', Same H H' → H p = none → H' p = some (.lst t.lv) → Q (.ref p) H'
theorem kid_lv {a b c e t : Tr} {i : Nat} (h : [a, b, c, e][i]? = some t) : t.lv.length ≤ (Tr.cho a b c e).lv.length := by
  have : (Tr.cho a b c e).lv = a.lv ++ b.lv ++ c.lv ++ e.lv := rfl
  rw [this, List.length_append, List.length_append, List.length_append]
  rcases mem4 h with rfl | rfl | rfl | rfl <;> omega
theorem take_lv {a b c e t : Tr} {i : Nat} (h : [a, b, c, e][i]? = some t) : (([a, b, c, e].take i).map Tr.lv).flatten ++ t.lv = (([a, b, c, e].take (i + 1)).map Tr.lv).flatten := by
  rw [List.take_succ, h]
  simp
theorem all_lv {a b c e : Tr} : (([a, b, c, e].take 4).map Tr.lv).flatten = (Tr.cho a b c e).lv := by
  show a.lv ++ (b.lv ++ (c.lv ++ (e.lv ++ []))) = a.lv ++ b.lv ++ c.lv ++ e.lv
  simp
theorem part_lv {a b c e : Tr} (i : Nat) : (([a, b, c, e].take i).map Tr.lv).flatten.length ≤ (Tr.cho a b c e).lv.length := by
  rw [← all_lv]
  have : [a, b, c, e].take 4 = [a, b, c, e] := rfl
  rw [this]
  conv => rhs; rw [← List.take_append_drop i [a, b, c, e]]
  rw [List.map_append, List.flatten_append, List.length_append]
  omega
theorem ok_leaves (T : Tx P K mg a) : ∀ n : Nat, FnOk P w K mg base CX0 (n + 1) a.f_leaves_of a.d_leaves_of ["plan"] (spLeaves K n)
  | 0 => fnNo fun vs H Q E ⟨v, t, _, _, h, _⟩ => by
    have := deep_pos t
    omega
  | n + 1 => by
    have IH : FnOk P w K mg base CX0 (n + 1) a.f_leaves_of a.d_leaves_of ["plan"] (spLeaves K n) := ok_leaves T n
    refine T.leaves_of.fn.ok sc_leaves_of (fun vs H Q E h => ?_) (fun cdv A outer s H vs Q E hr h => ?_)
    · obtain ⟨v, t, rfl, _⟩ := h
      rfl
    · obtain ⟨v, t, rfl, hv, hd, hl, q⟩ := h
      have nd := sc_leaves_of.nd
      have sl := PySem.sizeLine_eq
      refine ⟨_, (pss_cons (ps_if (pt_not (pt_val (cb_isi T.bi (pa_cons (pv 0) (pa_cons (gl_ty rfl T.bi.tuple PyProof.Rows.boot_tuple) pa_nil))))) (pss_one (ps_ret (pe_lst (pa_cons (pv 0) pa_nil)))) pss_nil)
        (pss_cons (ps_set (i := 1) nd rfl (Or.inl rfl) (pe_lst pa_nil))
        (pss_cons (ps_for PassesOwn.never rfl (pi_tup (pv 0)) (pg_name (i := 2) nd rfl (Or.inl rfl)) (pss_one (ps_set (i := 1) nd rfl (Or.inl rfl) (pe_op op_addA (pv 1) (pe_cf T.leaves_of IH hr (pa_cons (pv 2) pa_nil))))))
        (pss_one (ps_ret (pv 1)))))), ?_⟩
      refine ⟨_, rfl, isiTr hv ?_⟩
      refine ⟨_, rfl, ?_⟩
      cases t with
      | con m =>
        obtain rfl := tr_con hv
        exact ⟨_, rfl, by show 1 ≤ sizeLine; decide, fun p hp => q p _ (sNew hp) hp upd_same⟩
      | var x =>
        obtain rfl := tr_var hv
        exact ⟨_, rfl, by show 1 ≤ sizeLine; decide, fun p hp => q p _ (sNew hp) hp upd_same⟩
      | cho a1 b1 c1 e1 =>
        obtain ⟨p, v1, v2, v3, v4, rfl, sq, h1, h2, h3, h4⟩ := tr_cho hv
        refine ⟨Nat.zero_le _, fun D hD => ?_⟩
        have sD := sNew (o := .lst []) hD
        refine ⟨_, rfl, p, rfl, ⟨_, SqT.same sD sq⟩, ?_⟩
        refine for_it (walk_tup (xs := [v1, v2, v3, v4])) (fun i σ H' => ∃ (r : Addr) (o2 : Option V), σ = [some (.ref p), some (.ref r), o2] ∧ H r = none ∧ H' r = some (.lst (([a1, b1, c1, e1].take i).map Tr.lv).flatten) ∧ Same H H')
          ⟨D, none, rfl, hD, upd_same, sD⟩ (fun _ _ _ _ ⟨_, _, _, _, _, sm⟩ => SqT.same sm sq) ?_ ?_
        · rintro i x σ H1 H1' hi ⟨r, o2, rfl, nr, hr', sm⟩ ⟨rfl, hx⟩
          obtain ⟨t, ht, hdt⟩ := get4 (K := K) (H := H) hx h1 h2 h3 h4
          have hk := kid_deep ht
          have hkl := kid_lv ht
          refine ⟨_, rfl, _, rfl, x, t, rfl, tr_same sm hdt, by omega, by omega, fun p2 H2 s2 n2 g2 => ?_⟩
          have fits : (([a1, b1, c1, e1].take i).map Tr.lv).flatten.length + t.lv.length ≤ sizeLine := by
            have := part_lv (a := a1) (b := b1) (c := c1) (e := e1) i
            omega
          refine addL (s2 _ _ hr') g2 fits fun p3 H3 n3 s3 g3 => ?_
          have np3 : H p3 = none := by
            cases e : H p3 with
            | none => rfl
            | some o =>
              have := (sm.trans s2) _ _ e
              rw [n3] at this
              cases this
          exact ⟨p3, _, rfl, np3, by rw [g3, take_lv ht], (sm.trans s2).trans s3⟩
        · rintro σ H1 ⟨r, o2, rfl, nr, hr', sm⟩
          refine ⟨_, rfl, q r H1 sm nr ?_⟩
          rw [hr']
          exact congrArg (fun z => some (HO.lst z)) all_lv
end
end Z
set_option maxRecDepth 100000
set_option maxHeartbeats 4000000
namespace Z
open PySem PySem.Spec PyProof.Rows L2
theorem ascS_mors (zs : List Str) : ascS (mors [] zs) = ascS zs := Ord.asc_eq fun y => by rw [mem_mors]; simp
theorem ascI_mors (zs : List Int) : ascI (mors [] zs) = ascI zs := Ord.asc_eq fun y => by rw [mem_mors]; simp
theorem mors_snoc {κ : Type} [DecidableEq κ] {zs : List κ} {i : Nat} {z : κ} (h : zs[i]? = some z) : mor (mors [] (zs.take i)) z = mors [] (zs.take (i + 1)) := by
  unfold mors
  rw [List.take_succ, h]
  show _ = List.foldl mor [] (zs.take i ++ [z])
  rw [List.foldl_append]
  rfl
theorem mors_few {κ : Type} [DecidableEq κ] {zs : List κ} {i : Nat} : (mors [] (zs.take i)).length ≤ zs.length := by
  have h1 := len_mors (l := []) (ks := zs.take i)
  have h2 : (zs.take i).length ≤ zs.length := by rw [List.length_take]; exact Nat.min_le_right ..
  simp only [List.length_nil] at h1
  omega
section
variable {P : Program} {w : World} {K : PySem.W.Frag} {mg : Str → Option Value} {base : Heap} {a : Ad}
def spAscW (K : PySem.W.Frag) : Sp := fun vs H Q _ => ∃ (p : Addr) (zs : List Str), vs = [.ref p] ∧ SqL K H p (zs.map V.str) ∧ zs.length < 64 ∧ ∀ q H', Same H H' → H q = none → H' q = some (.lst ((ascS zs).map V.str)) → Q (.ref q) H'
theorem ok_ascW (T : Tx P K mg a) : FnOk P w K mg base CX0 1 a.f_ascending_words a.d_ascending_words ["words"] (spAscW K) := by
  refine T.ascending_words.fn.ok sc_ascending_words (fun vs H Q E h => ?_) (fun cdv A outer s H vs Q E hr h => ?_)
  · obtain ⟨p, zs, rfl, _⟩ := h
    rfl
  · obtain ⟨p, zs, rfl, hs, few, q⟩ := h
    have nd := sc_ascending_words.nd
    refine ⟨_, (pss_one (ps_ret (pe_callB (call_sortHS (P := P) (w := w) rfl) rfl T.bi.sorted PyProof.Rows.boot_sorted (pa_cons (pe_scH (strSK P w) (own := [("word", 1)]) rfl nd (pi_list (pv 0)) (blkOk_by (own := [("word", 1)]) (N := ["words", "word"]) (sc := defScope s_ascending_words) (by decide +kernel)) (fun _ _ _ _ _ => (pg_name (i := 1) nd rfl (Or.inl rfl))) (fun _ _ _ _ _ => pts_nil) (fun _ _ _ _ _ => (cb_str T.bi (pa_cons (pv 1) pa_nil)))) pa_nil)))), ?_⟩
    refine ⟨_, rfl, p, rfl, ⟨_, hs⟩, fun D nD => ?_⟩
    refine sch_it (walk_list (xs := zs.map V.str)) (fun i H' => Same H H' ∧ H' D = some (SetH (strSK P w) D (mors [] (zs.take i)))) ⟨sNew nD, upd_same⟩ (fun i H' _ ⟨sm, _⟩ => SqL.same sm hs) ?_ ?_
    · rintro i x H1 H1' hi ⟨sm, hD⟩ ⟨rfl, hx⟩
      rw [List.getElem?_map] at hx
      obtain ⟨z, hz, rfl⟩ : ∃ z, zs[i]? = some z ∧ x = V.str z := by
        cases e : zs[i]? with
        | none => rw [e] at hx; cases hx
        | some z => rw [e] at hx; cases hx; exact ⟨z, rfl, rfl⟩
      refine ⟨rfl, _, rfl, strS ?_⟩
      have h1 := mors_few (zs := zs) (i := i)
      refine ⟨z, _, rfl, hD, by unfold scanBound; omega, sUpd nD sm, ?_⟩
      rw [upd_same, mors_snoc hz]
    · rintro H1 ⟨sm, hD⟩
      have e : (zs.map V.str).length = zs.length := List.length_map ..
      rw [e, List.take_length] at hD
      refine ⟨D, _, rfl, hD, by have := mors_few (zs := zs) (i := zs.length); rw [List.take_length] at this; omega, fun r nr => ?_⟩
      refine q r _ (sm.trans (sNew nr)) ?_ (by rw [upd_same, ascS_mors])
      cases e : H r with
      | none => rfl
      | some o =>
        have := sm _ _ e
        rw [nr] at this
        cases this
def spAscN (K : PySem.W.Frag) : Sp := fun vs H Q _ => ∃ (p : Addr) (zs : List Int), vs = [.ref p] ∧ SqL K H p (zs.map V.int) ∧ zs.length < 64 ∧ ∀ q H', Same H H' → H q = none → H' q = some (.lst ((ascI zs).map V.int)) → Q (.ref q) H'
theorem ok_ascN (T : Tx P K mg a) : FnOk P w K mg base CX0 1 a.f_ascending_numbers a.d_ascending_numbers ["numbers"] (spAscN K) := by
  refine T.ascending_numbers.fn.ok sc_ascending_numbers (fun vs H Q E h => ?_) (fun cdv A outer s H vs Q E hr h => ?_)
  · obtain ⟨p, zs, rfl, _⟩ := h
    rfl
  · obtain ⟨p, zs, rfl, hs, few, q⟩ := h
    have nd := sc_ascending_numbers.nd
    refine ⟨_, (pss_one (ps_ret (pe_callB (call_sortHI (P := P) (w := w) rfl) rfl T.bi.sorted PyProof.Rows.boot_sorted (pa_cons (pe_scH (intSK P w) (own := [("number", 1)]) rfl nd (pi_list (pv 0)) (blkOk_by (own := [("number", 1)]) (N := ["numbers", "number"]) (sc := defScope s_ascending_numbers) (by decide +kernel)) (fun _ _ _ _ _ => (pg_name (i := 1) nd rfl (Or.inl rfl))) (fun _ _ _ _ _ => pts_nil) (fun _ _ _ _ _ => (cb_int T.bi (pa_cons (pv 1) pa_nil)))) pa_nil)))), ?_⟩
    refine ⟨_, rfl, p, rfl, ⟨_, hs⟩, fun D nD => ?_⟩
    refine sch_it (walk_list (xs := zs.map V.int)) (fun i H' => Same H H' ∧ H' D = some (SetH (intSK P w) D (mors [] (zs.take i)))) ⟨sNew nD, upd_same⟩ (fun i H' _ ⟨sm, _⟩ => SqL.same sm hs) ?_ ?_
    · rintro i x H1 H1' hi ⟨sm, hD⟩ ⟨rfl, hx⟩
      rw [List.getElem?_map] at hx
      obtain ⟨z, hz, rfl⟩ : ∃ z, zs[i]? = some z ∧ x = V.int z := by
        cases e : zs[i]? with
        | none => rw [e] at hx; cases hx
        | some z => rw [e] at hx; cases hx; exact ⟨z, rfl, rfl⟩
      refine ⟨rfl, _, rfl, intI ?_⟩
      have h1 := mors_few (zs := zs) (i := i)
      refine ⟨z, _, rfl, hD, by unfold scanBound; omega, sUpd nD sm, ?_⟩
      rw [upd_same, mors_snoc hz]
    · rintro H1 ⟨sm, hD⟩
      have e : (zs.map V.int).length = zs.length := List.length_map ..
      rw [e, List.take_length] at hD
      refine ⟨D, _, rfl, hD, by have := mors_few (zs := zs) (i := zs.length); rw [List.take_length] at this; omega, fun r nr => ?_⟩
      refine q r _ (sm.trans (sNew nr)) ?_ (by rw [upd_same, ascI_mors])
      cases e : H r with
      | none => rfl
      | some o =>
        have := sm _ _ e
        rw [nr] at this
        cases this
end
end Z
set_option maxRecDepth 100000
set_option maxHeartbeats 4000000
namespace Z
open PySem PySem.Spec PyProof.Rows L2
theorem fm_snoc {α β : Type} {f : α → Option β} {xs : List α} {i : Nat} {x : α} (h : xs[i]? = some x) : (xs.take (i + 1)).filterMap f = (xs.take i).filterMap f ++ (match f x with | some y => [y] | none => []) := by
  rw [List.take_succ, h, List.filterMap_append]
  congr 1
  show List.filterMap f [x] = _
  cases hf : f x <;> simp [List.filterMap, hf]
theorem leaf_cases {v : V} (h : Leaf v) : (∃ z, v = .str z ∧ Word z) ∨ ∃ n, v = .int n ∧ 0 ≤ n ∧ n ≤ 9 := h
theorem lv_at {t : Tr} {i : Nat} {x : V} (ok : t.Ok) (h : t.lv[i]? = some x) : Leaf x := lv_leaf ok x (List.mem_of_getElem? h)
theorem fm_len {α β : Type} {f : α → Option β} {xs : List α} {i : Nat} : ((xs.take i).filterMap f).length ≤ xs.length :=
  Nat.le_trans (List.length_filterMap_le ..) (by rw [List.length_take]; exact Nat.min_le_right ..)
section
variable {P : Program} {w : World} {K : PySem.W.Frag} {mg : Str → Option Value} {base : Heap} {a : Ad}
def spTVars (K : PySem.W.Frag) (C : Addr) : Sp := fun vs H Q _ => ∃ (p : Addr) (t : Tr), vs = [.ref p] ∧ TermAt K C H p t ∧ t.deep ≤ 3 ∧ ∀ q H', Same H H' → H q = none → H' q = some (.lst ((ascS t.ws).map V.str)) → Q (.ref q) H'
theorem ok_tvars (T : Tx P K mg a) : FnOk P w K mg base CX0 5 a.f_Term_variables a.d_Term_variables ["self"] (spTVars K a.C_Term) := by
  have F1 : FnOk P w K mg base CX0 4 a.f_leaves_of a.d_leaves_of ["plan"] (spLeaves K 3) := ok_leaves T 3
  have F2 : FnOk P w K mg base CX0 1 a.f_ascending_words a.d_ascending_words ["words"] (spAscW K) := ok_ascW T
  refine T.Term_variables.ok sc_Term_variables (fun vs H Q E h => ?_) (fun cdv A outer s H vs Q E hr h => ?_)
  · obtain ⟨p, t, rfl, _⟩ := h
    rfl
  · obtain ⟨p, t, rfl, ⟨dx, u, h1, h2, h3⟩, hd, k⟩ := h
    have nd := sc_Term_variables.nd
    have l16 := lv_16 hd
    refine ⟨_, (pss_one (ps_ret (pe_cf T.ascending_words F2 (hr.mono (by decide)) (pa_cons (pe_lc (own := [("leaf", 1)]) (by rfl) nd (pi_list (pe_cf T.leaves_of F1 hr (pa_cons (pe_fld (pv 0) rfl) pa_nil))) (blkOk_by (own := [("leaf", 1)]) (N := ["self", "leaf"]) (sc := defScope s_Term_variables) (by decide +kernel)) (fun _ _ _ _ _ => (pg_name (i := 1) nd rfl (Or.inl rfl))) (fun _ _ _ _ _ => pts_one (pt_val (cb_isiA (K := K) T.bi (pa_cons (pv 1) (pa_cons (gl_ty rfl T.bi.str PyProof.Rows.boot_str) pa_nil))))) (fun _ _ _ _ _ => (pv 1))) pa_nil)))), ?_⟩
    refine ⟨_, rfl, p, _, dx, _, u, rfl, h1, T.c_Term, T.no_Term_tree, rfl, u, t, rfl, h2, hd, by omega, fun L H1 s1 nL hL => ?_⟩
    refine ⟨L, rfl, ⟨_, .inl (.inl hL)⟩, fun D nD => ?_⟩
    refine lc_it (walk_list (xs := t.lv)) (fun i H' => H' D = some (.lst (((t.lv.take i).filterMap strV).map V.str)) ∧ Same H1 H') ⟨upd_same, sNew nD⟩ (fun _ _ _ ⟨_, sm⟩ => .inl (.inl (sm _ _ hL))) ?_ ?_
    · rintro i x H2 H2' hi ⟨hA, sm⟩ ⟨rfl, hx⟩
      have few := fm_len (f := strV) (xs := t.lv) (i := i)
      rcases lv_at h3.1 hx with ⟨z, rfl, hz⟩ | ⟨m, rfl, hm⟩
      · refine ⟨rfl, _, rfl, ⟨isiTy (.base (.str z)) k_ss ?_⟩⟩
        refine ⟨_, rfl, ?_⟩
        refine ⟨_, rfl, _, hA, by rw [List.length_map]; have := sl1k; omega, ?_, sUpd nD sm⟩
        rw [upd_same, fm_snoc hx, List.map_append]
        rfl
      · refine ⟨rfl, _, rfl, ⟨isiTy (.base (.int m)) (by decide +kernel : kitB "int" "str" = some false) ?_⟩⟩
        refine ⟨_, rfl, ?_⟩
        refine ⟨?_, sm⟩
        rw [hA, fm_snoc hx]
        show some (HO.lst (List.map V.str (List.filterMap strV (List.take i t.lv)))) = some (HO.lst (List.map V.str (List.filterMap strV (List.take i t.lv) ++ [])))
        rw [List.append_nil]
    · rintro H2 ⟨hA, sm⟩
      rw [List.take_length, lv_ws] at hA
      have few := ws_len t
      refine ⟨D, t.ws, rfl, .inl (.inl hA), by omega, fun q H3 s3 nq hq => ?_⟩
      exact k q H3 ((s1.trans sm).trans s3) (back_none (s1.trans sm) nq) hq
def spTCons (K : PySem.W.Frag) (C : Addr) : Sp := fun vs H Q _ => ∃ (p : Addr) (t : Tr), vs = [.ref p] ∧ TermAt K C H p t ∧ t.deep ≤ 3 ∧ ∀ q H', Same H H' → H q = none → H' q = some (.lst ((ascI t.ns).map V.int)) → Q (.ref q) H'
theorem ok_tcons (T : Tx P K mg a) : FnOk P w K mg base CX0 5 a.f_Term_constants a.d_Term_constants ["self"] (spTCons K a.C_Term) := by
  have F1 : FnOk P w K mg base CX0 4 a.f_leaves_of a.d_leaves_of ["plan"] (spLeaves K 3) := ok_leaves T 3
  have F2 : FnOk P w K mg base CX0 1 a.f_ascending_numbers a.d_ascending_numbers ["numbers"] (spAscN K) := ok_ascN T
  have F3 : FnOk P w K mg base CX0 1 a.f_is_whole a.d_is_whole ["value"] (spWhole K) := ok_whole T
  refine T.Term_constants.ok sc_Term_constants (fun vs H Q E h => ?_) (fun cdv A outer s H vs Q E hr h => ?_)
  · obtain ⟨p, t, rfl, _⟩ := h
    rfl
  · obtain ⟨p, t, rfl, ⟨dx, u, h1, h2, h3⟩, hd, k⟩ := h
    have nd := sc_Term_constants.nd
    have l16 := lv_16 hd
    have hr1 : Room 1 _ := hr.mono (by decide)
    refine ⟨_, (pss_one (ps_ret (pe_cf T.ascending_numbers F2 (hr.mono (by decide)) (pa_cons (pe_lc (own := [("leaf", 1)]) (by rfl) nd (pi_list (pe_cf T.leaves_of F1 hr (pa_cons (pe_fld (pv 0) rfl) pa_nil))) (blkOk_by (own := [("leaf", 1)]) (N := ["self", "leaf"]) (sc := defScope s_Term_constants) (by decide +kernel)) (fun _ _ _ _ _ => (pg_name (i := 1) nd rfl (Or.inl rfl))) (fun _ _ _ _ _ => pts_one (pt_val (pe_cf T.is_whole F3 hr1 (pa_cons (pv 1) pa_nil)))) (fun _ _ _ _ _ => (pv 1))) pa_nil)))), ?_⟩
    refine ⟨_, rfl, p, _, dx, _, u, rfl, h1, T.c_Term, T.no_Term_tree, rfl, u, t, rfl, h2, hd, by omega, fun L H1 s1 nL hL => ?_⟩
    refine ⟨L, rfl, ⟨_, .inl (.inl hL)⟩, fun D nD => ?_⟩
    refine lc_it (walk_list (xs := t.lv)) (fun i H' => H' D = some (.lst (((t.lv.take i).filterMap intV).map V.int)) ∧ Same H1 H') ⟨upd_same, sNew nD⟩ (fun _ _ _ ⟨_, sm⟩ => .inl (.inl (sm _ _ hL))) ?_ ?_
    · rintro i x H2 H2' hi ⟨hA, sm⟩ ⟨rfl, hx⟩
      have few := fm_len (f := intV) (xs := t.lv) (i := i)
      rcases lv_at h3.1 hx with ⟨z, rfl, hz⟩ | ⟨m, rfl, hm⟩
      · refine ⟨rfl, _, rfl, .str z, "str", false, false, rfl, .base (.str z), k_si, (by decide +kernel : kitB "str" "bool" = some false), ?_⟩
        refine ⟨_, rfl, ?_⟩
        refine ⟨?_, sm⟩
        rw [hA, fm_snoc hx]
        show some (HO.lst (List.map V.int (List.filterMap intV (List.take i t.lv)))) = some (HO.lst (List.map V.int (List.filterMap intV (List.take i t.lv) ++ [])))
        rw [List.append_nil]
      · refine ⟨rfl, _, rfl, .int m, "int", true, false, rfl, .base (.int m), k_ii, k_ib, ?_⟩
        refine ⟨_, rfl, ?_⟩
        refine ⟨_, rfl, _, hA, by rw [List.length_map]; have := sl1k; omega, ?_, sUpd nD sm⟩
        rw [upd_same, fm_snoc hx, List.map_append]
        rfl
    · rintro H2 ⟨hA, sm⟩
      rw [List.take_length, lv_ns] at hA
      have few := ns_len t
      refine ⟨D, t.ns, rfl, .inl (.inl hA), by omega, fun q H3 s3 nq hq => ?_⟩
      exact k q H3 ((s1.trans sm).trans s3) (back_none (s1.trans sm) nq) hq
end
end Z
set_option maxRecDepth 100000
set_option maxHeartbeats 4000000
namespace Z
open PySem PySem.Spec PyProof.Rows L2
theorem b01 (b : Bool) : (if b = true then (1 : Int) else 0).natAbs < 2 ^ 1 := by cases b <;> decide
theorem bits_lt {n : Int} {N : Nat} (h : Builtin.Int.intBits n ≤ N) : n.natAbs < 2 ^ N := by
  by_cases h0 : n = 0
  · subst h0
    exact Nat.two_pow_pos N
  · have e : Builtin.Int.intBits n = n.natAbs.log2 + 1 := by
      unfold Builtin.Int.intBits
      rw [if_neg (by simpa using h0)]
    rw [e] at h
    exact Nat.lt_of_lt_of_le Nat.lt_log2_self (Nat.pow_le_pow_right (by decide) h)
section
variable {P : Program} {w : World} {K : PySem.W.Frag} {mg : Str → Option Value} {base : Heap} {a : Ad}
def PoolAt (H : Hp) (l : Addr) : Prop := ∃ p q : Int, H l = some (.lst [.int p, .int q]) ∧ 0 ≤ q ∧ q < 2147483647
def spPool (K : PySem.W.Frag) : Sp := fun vs H Q _ => ∃ (s : Addr) (ns : List Int) (k : Nat), vs = [.ref s, .int (k : Nat)] ∧ SqL K H s (ns.map V.int) ∧ (∀ z ∈ ns, Builtin.Int.intBits z ≤ 1048576) ∧ k ≤ 1000 ∧
  ∀ l H', Same H H' → H l = none → PoolAt H' l → Q (.ref l) H'
theorem ok_pool (T : Tx P K mg a) : FnOk P w K mg base CX0 1 a.f__law_pool a.d__law_pool ["script", "k"] (spPool K) := by
  refine T._law_pool.fn.ok sc__law_pool (fun vs H Q E h => ?_) (fun cdv A outer s H vs Q E hr h => ?_)
  · obtain ⟨l, ns, k, rfl, _⟩ := h
    rfl
  · obtain ⟨l, ns, k, rfl, hs, hb, hk, q⟩ := h
    have nd := sc__law_pool.nd
    refine ⟨_, (pss_cons (ps_set (i := 2) nd rfl (Or.inl rfl) pe_int)
      (pss_cons (ps_if (pt_cmpR op_lt (pv 1) (cb_len T.bi (pa_cons (pv 0) pa_nil)) (nomark _))
        (pss_one (ps_set (i := 2) nd rfl (Or.inl rfl) (pe_ix ix_A (pv 0) (pv 1) (fun _ _ => rfl)))) pss_nil)
      (pss_cons (ps_set (i := 3) nd rfl (Or.inl rfl) (cb_max T.bi (pa_cons (cb_int T.bi (pa_cons (pv 2) pa_nil)) (pa_cons (cb_int T.bi (pa_cons (pe_op op_sub (pe_un un_neg pe_int) (pv 2)) pa_nil)) pa_nil))))
      (pss_cons (ps_set (i := 4) nd rfl (Or.inl rfl) (pe_op op_mod (cb_int T.bi (pa_cons (pe_op op_mulA (pe_op op_addA (pe_op op_addA (pe_op op_addA (pe_op op_mod (cb_int T.bi (pa_cons (pv 3) pa_nil)) pe_int) (pe_op op_mulA (pe_op op_mulA pe_int (pv 1)) (pv 1))) (pe_op op_mulA pe_int (pv 1))) pe_int) pe_int) pa_nil)) pe_int))
      (pss_one (ps_ret (pe_lst (pa_cons (pe_op op_mulA (pv 3) (cb_int T.bi (pa_cons (pe_cmpR op_ge (pv 3) (pe_op op_pow pe_int pe_int) (nomark _)) pa_nil))) (pa_cons (pv 4) pa_nil))))))))), ?_⟩
    have big : (2 : Nat) ^ 1048577 = 2 * 2 ^ 1048576 := Nat.pow_succ'
    have sz : ∀ c : Int, c.natAbs < 2 ^ 1048576 → (0 : Int) ≤ (if -1 - c > c then -1 - c else c) ∧ (if -1 - c > c then -1 - c else c).natAbs < 2 ^ 1048577 := fun c hc => by
      generalize (2 : Nat) ^ 1048576 = N at hc big
      rw [big]
      split <;> omega
    have kb : ((k : Nat) : Int).natAbs < 2 ^ 10 := by omega
    have m1 : (7919 * (k : Int)).natAbs < 2 ^ 23 := by omega
    refine ⟨_, rfl, _, rfl, lenL hs ?_⟩
    refine ⟨_, _, rfl, rfl, _, rfl, ?_⟩
    have kk : 0 ≤ 7919 * (k : Int) * k ∧ 7919 * (k : Int) * k ≤ 7919 * 1000 * 1000 := by
      have h0 : (0 : Int) ≤ k := Int.natCast_nonneg _
      have h1 : (k : Int) ≤ 1000 := Int.ofNat_le.mpr hk
      have h2 : (k : Int) * k ≤ 1000 * 1000 := Int.mul_le_mul h1 h1 h0 (by decide)
      have h3 : (0 : Int) ≤ (k : Int) * k := Int.mul_nonneg h0 h0
      rw [Int.mul_assoc]
      omega
    have sm : ∀ c : Int, (c % 2147483629 + 7919 * (k : Int) * k + 31 * (k : Int) + 17).natAbs < 2 ^ 60 := fun c => by
      have h1 := Int.emod_nonneg c (show (2147483629 : Int) ≠ 0 by decide)
      have h2 := Int.emod_lt_of_pos c (show (0 : Int) < 2147483629 by decide)
      generalize 7919 * (k : Int) * k = y at kk
      omega
    have km : ((k : Int) * 7919).natAbs < 2 ^ 23 := by omega
    have fin : ∀ (c : Int), c.natAbs < 2 ^ 1048576 → ∀ p H', H' p = some (HO.lst [.int ((if -1 - c > c then -1 - c else c) * (if (decide ((10 : Int) ^ (18 : Int).toNat ≤ (if -1 - c > c then -1 - c else c))) then 1 else 0)), .int (((if -1 - c > c then -1 - c else c) % 2147483629 + 7919 * (k : Int) * k + 31 * k + 17) * 48271 % 2147483647)]) → PoolAt H' p := fun c hc p H' h =>
      ⟨_, _, h, Int.emod_nonneg _ (by decide), Int.emod_lt_of_pos _ (by decide)⟩
    by_cases hl : k < ns.length
    · rw [decide_eq_true (by rw [List.length_map]; exact Int.ofNat_lt.mpr hl)]
      have hc := bits_lt (hb _ (List.getElem_mem hl))
      refine ⟨_, rfl, _, rfl, ixL (v := .int ns[k]) hs (by simp [hl]) ?_⟩
      have fin := fin _ hc
      have sz := sz _ hc
      refine ⟨_, rfl, intI ?_⟩
      refine ⟨1, rfl, _, rfl, _, _, rfl, rfl, intI (max2 ?_)⟩
      refine ⟨_, rfl, intI ?_⟩
      refine ⟨_, _, rfl, rfl, (show (0 : Int) < 2147483629 by decide), ?_⟩
      refine ⟨_, rfl, mulI (mulx_ok (a := 13) (b := 10) (by decide) kb (by decide)) ?_⟩
      refine ⟨_, rfl, mulI (mulx_ok (a := 23) (b := 10) m1 kb (by decide)) (addI ?_)⟩
      refine ⟨_, rfl, mulI (mulx_ok (a := 5) (b := 10) (by decide) kb (by decide)) (addI ?_)⟩
      refine addI (mulI (mulx_ok (a := 60) (b := 16) (sm _) (by decide) (by decide)) (intI ?_))
      refine ⟨_, _, rfl, rfl, (show (0 : Int) < 2147483647 by decide), ?_⟩
      refine ⟨_, rfl, _, rfl, 10, 18, rfl, rfl, ⟨by decide, by decide, by decide⟩, _, _, rfl, rfl, intB ?_⟩
      refine mulI (mulx_ok (a := 1048577) (b := 1) sz.2 (b01 _) (by decide)) ?_
      refine ⟨_, rfl, by show 2 ≤ sizeLine; decide, fun p hp => ?_⟩
      exact q p _ (sNew hp) hp (fin p _ upd_same)
    · rw [decide_eq_false (by rw [List.length_map]; exact fun h => hl (Int.ofNat_lt.mp h))]
      have hc : (0 : Int).natAbs < 2 ^ 1048576 := Nat.two_pow_pos _
      have fin := fin _ hc
      have sz := sz _ hc
      refine ⟨_, rfl, intI ?_⟩
      refine ⟨1, rfl, _, rfl, _, _, rfl, rfl, intI (max2 ?_)⟩
      refine ⟨_, rfl, intI ?_⟩
      refine ⟨_, _, rfl, rfl, (show (0 : Int) < 2147483629 by decide), ?_⟩
      refine ⟨_, rfl, mulI (mulx_ok (a := 13) (b := 10) (by decide) kb (by decide)) ?_⟩
      refine ⟨_, rfl, mulI (mulx_ok (a := 23) (b := 10) m1 kb (by decide)) (addI ?_)⟩
      refine ⟨_, rfl, mulI (mulx_ok (a := 5) (b := 10) (by decide) kb (by decide)) (addI ?_)⟩
      refine addI (mulI (mulx_ok (a := 60) (b := 16) (sm _) (by decide) (by decide)) (intI ?_))
      refine ⟨_, _, rfl, rfl, (show (0 : Int) < 2147483647 by decide), ?_⟩
      refine ⟨_, rfl, _, rfl, 10, 18, rfl, rfl, ⟨by decide, by decide, by decide⟩, _, _, rfl, rfl, intB ?_⟩
      refine mulI (mulx_ok (a := 1048577) (b := 1) sz.2 (b01 _) (by decide)) ?_
      refine ⟨_, rfl, by show 2 ≤ sizeLine; decide, fun p hp => ?_⟩
      exact q p _ (sNew hp) hp (fin p _ upd_same)
theorem ixP0 {H : Hp} {Q : VK} {l : Addr} {p q : Int} (h : H l = some (.lst [.int p, .int q])) (k : Q (.int p) H) : rIxA K (.ref l) (.int 0) H Q := ixL (i := 0) (.inl (.inl h)) rfl k
theorem ixP1 {H : Hp} {Q : VK} {l : Addr} {p q : Int} (h : H l = some (.lst [.int p, .int q])) (k : Q (.int q) H) : rIxA K (.ref l) (.int 1) H Q := ixL (i := 1) (.inl (.inl h)) rfl k
def spTake : Sp := fun vs H Q _ => ∃ (l : Addr) (b : Int), vs = [.ref l, .int b] ∧ PoolAt H l ∧ 0 < b ∧ b < 1000000 ∧ ∀ r H', But l H H' → PoolAt H' l → 0 ≤ r → r < b → Q (.int r) H'
theorem ok_take (T : Tx P K mg a) : FnOk P w K mg base CX0 1 a.f__law_take a.d__law_take ["pool", "bound"] spTake := by
  refine T._law_take.fn.ok sc__law_take (fun vs H Q E h => ?_) (fun cdv A outer s H vs Q E hr h => ?_)
  · obtain ⟨l, b, rfl, _⟩ := h
    rfl
  · obtain ⟨l, b, rfl, ⟨p, q, hl, q0, q1⟩, hb, hb2, k⟩ := h
    have nd := sc__law_take.nd
    refine ⟨_, (pss_cons (ps_if (pt_cmpR op_gt (pe_ix ix_A (pv 0) pe_int (fun _ _ => rfl)) pe_int (nomark _))
        (pss_cons (ps_set (i := 2) nd rfl (Or.inl rfl) (pe_op op_mod (cb_int T.bi (pa_cons (pe_ix ix_A (pv 0) pe_int (fun _ _ => rfl)) pa_nil)) (pv 1)))
        (pss_cons (ps_asg (pe_op op_fdivW (pe_ix ix_A (pv 0) pe_int (fun _ _ => rfl)) (pv 1)) (pg_sub (pv 0) pe_int set_list))
        (pss_one (ps_ret (pv 2))))) pss_nil)
      (pss_cons (ps_asg (pe_op op_mod (cb_int T.bi (pa_cons (pe_op op_addA (pe_op op_mulA (pe_ix ix_A (pv 0) pe_int (fun _ _ => rfl)) pe_int) pe_int) pa_nil)) pe_int) (pg_sub (pv 0) pe_int set_list))
      (pss_one (ps_ret (pe_op op_mod (cb_int T.bi (pa_cons (pe_op op_fdivW (pe_op op_mod (cb_int T.bi (pa_cons (pe_op op_mulA (pe_ix ix_A (pv 0) pe_int (fun _ _ => rfl)) (pe_ix ix_A (pv 0) pe_int (fun _ _ => rfl))) pa_nil)) pe_int) pe_int) pa_nil)) (pv 1)))))), ?_⟩
    refine ⟨_, rfl, ixP0 hl ?_⟩
    refine ⟨p, 0, rfl, rfl, _, rfl, ?_⟩
    by_cases hp : 0 < p
    · rw [decide_eq_true hp]
      refine ⟨_, rfl, ixP0 hl (intI ?_)⟩
      refine ⟨_, rfl, _, _, rfl, rfl, hb, ?_⟩
      refine ⟨_, rfl, ixP0 hl ?_⟩
      refine ⟨_, rfl, _, _, rfl, rfl, wide_div (b := 20) hb (by omega) (by decide) (by decide), ?_⟩
      refine ⟨_, rfl, l, _, 0, 0, rfl, rfl, hl, rfl, ?_⟩
      exact ⟨_, rfl, k _ _ (But.upd) ⟨_, _, upd_same, q0, q1⟩ (Int.emod_nonneg _ (by omega)) (Int.emod_lt_of_pos _ hb)⟩
    · rw [decide_eq_false hp]
      refine ⟨_, rfl, ixP1 hl ?_⟩
      refine mulI (mulx_ok (a := 31) (b := 16) (by omega) (by decide) (by decide)) (addI (intI ?_))
      refine ⟨_, _, rfl, rfl, (show (0 : Int) < 2147483647 by decide), ?_⟩
      refine ⟨_, rfl, l, _, 1, 1, rfl, rfl, hl, rfl, ?_⟩
      have g0 := Int.emod_nonneg (q * 39373 + 7) (show (2147483647 : Int) ≠ 0 by decide)
      have g1 := Int.emod_lt_of_pos (q * 39373 + 7) (show (0 : Int) < 2147483647 by decide)
      have hl2 : (upd H l (.lst ([V.int p, .int q].set 1 (.int ((q * 39373 + 7) % 2147483647))))) l = some (.lst [.int p, .int ((q * 39373 + 7) % 2147483647)]) := upd_same
      refine ⟨_, rfl, ixP1 hl2 ?_⟩
      refine ⟨_, rfl, ixP1 hl2 ?_⟩
      refine mulI (mulx_ok (a := 31) (b := 31) (by omega) (by omega) (by decide)) (intI ?_)
      refine ⟨_, _, rfl, rfl, (show (0 : Int) < 2147483629 by decide), ?_⟩
      refine ⟨_, _, rfl, rfl, ⟨(show (0 : Int) < 32 by decide), by decide⟩, intI ?_⟩
      refine ⟨_, rfl, _, _, rfl, rfl, hb, ?_⟩
      exact k _ _ (But.upd) ⟨_, _, hl2, g0, g1⟩ (Int.emod_nonneg _ (by omega)) (Int.emod_lt_of_pos _ hb)
def spOne (K : PySem.W.Frag) : Sp := fun vs H Q _ => ∃ (l : Addr) (x : V), vs = [.ref l, x] ∧ PoolAt H l ∧
  ((∃ p xs, x = .ref p ∧ p ≠ l ∧ SqL K H p xs ∧ xs ≠ [] ∧ xs.length < 1000 ∧ ∀ (i : Nat) y H', But l H H' → PoolAt H' l → xs[i]? = some y → Q y H') ∨ (∃ z : Str, x = .str z ∧ 0 < z.length ∧ z.length < 1000 ∧ ∀ c H', But l H H' → PoolAt H' l → c ∈ ls z → Q (.str (tx [c])) H'))
theorem ok_one (T : Tx P K mg a) : FnOk P w K mg base CX0 2 a.f__law_one a.d__law_one ["pool", "things"] (spOne K) := by
  have F1 : FnOk P w K mg base CX0 1 a.f__law_take a.d__law_take ["pool", "bound"] spTake := ok_take T
  refine T._law_one.fn.ok sc__law_one (fun vs H Q E h => ?_) (fun cdv A outer s H vs Q E hr h => ?_)
  · obtain ⟨l, b, rfl, _⟩ := h
    rfl
  · obtain ⟨l, x, rfl, hP, h⟩ := h
    refine ⟨_, (pss_one (ps_ret (pe_ix ix_A (pv 1) (pe_cf T._law_take F1 hr (pa_cons (pv 0) (pa_cons (cb_len T.bi (pa_cons (pv 1) pa_nil)) pa_nil))) (fun _ _ => rfl)))), ?_⟩
    rcases h with ⟨p, xs, rfl, ne, hx, h0, h1, k⟩ | ⟨z, rfl, h0, h1, k⟩
    · refine ⟨_, rfl, _, rfl, _, rfl, lenL hx ?_⟩
      have : 0 < xs.length := List.length_pos_iff.mpr h0
      refine ⟨l, _, rfl, hP, by omega, by omega, fun r H1 b1 hP1 r0 r1 => ?_⟩
      obtain ⟨i, rfl⟩ := Int.eq_ofNat_of_zero_le r0
      have hi : i < xs.length := Int.ofNat_lt.mp r1
      exact ixL (But.sql b1 ne hx) (List.getElem?_eq_getElem hi) (k i _ _ b1 hP1 (List.getElem?_eq_getElem hi))
    · have zl : z.length ≤ sizeLine := by have := PySem.sizeLine_eq; omega
      refine ⟨_, rfl, _, rfl, _, rfl, lenS zl ?_⟩
      refine ⟨l, _, rfl, hP, by omega, by omega, fun r H1 b1 hP1 r0 r1 => ?_⟩
      obtain ⟨i, rfl⟩ := Int.eq_ofNat_of_zero_le r0
      have hi : i < (ls z).length := by rw [ls_len]; exact Int.ofNat_lt.mp r1
      exact ixS zl (List.getElem?_eq_getElem hi) (k _ _ b1 hP1 (List.getElem_mem hi))
end
end Z
set_option maxRecDepth 100000
set_option maxHeartbeats 4000000
namespace Z
open PySem PySem.Spec PyProof.Rows L2
theorem ls_join0 : ∀ ys : List Str, ls (Str.join ("" : Str) ys) = (ys.map ls).flatten
  | [] => rfl
  | [x] => by
    show ls x = _
    simp
  | x :: y :: r => by
    show ls (x ++ ("" : Str) ++ Str.join ("" : Str) (y :: r)) = _
    rw [ls_app, ls_app, ls_join0 (y :: r)]
    have : ls ("" : Str) = [] := by decide +kernel
    rw [this]
    simp
def Short (w : Str) : Prop := 1 ≤ w.length ∧ w.length ≤ 5 ∧ ∀ c ∈ ls w, isLB c = true
theorem Short.word {w : Str} (h : Short w) : Word w := ⟨h.1, by have := h.2.1; omega, fun c hc => isLB_iff.mp (h.2.2 c hc)⟩
theorem sl10 : 1000 ≤ sizeLine := by decide
theorem But.fr {l D : Addr} {H H' : Hp} {o : HO} (hD : H D = none) (b : But l H H') : But l H (L2.upd H' D o) := fun c u hc e => by
  rw [upd_ne (ne_of_none e hD)]
  exact b c u hc e
theorem txj (sep : Str) (ys : List Str) : Txt.join sep ys = Str.join sep ys := PySem.StrLaws.glued_eq_join sep ys
theorem But.non {l D : Addr} {H HB : Hp} (b : But l H HB) (ne : D ≠ l) (n : HB D = none) : H D = none := by
  cases e : H D with
  | none => rfl
  | some o =>
    have := b D o ne e
    rw [n] at this
    cases this
theorem But.fr2 {l D : Addr} {H HB H' : Hp} {o : HO} (b : But l H HB) (ne : D ≠ l) (n : HB D = none) (b2 : But l H H') : But l H (L2.upd H' D o) := But.fr (b.non ne n) b2
theorem ixSm {K : PySem.W.Frag} {H : Hp} {Q : VK} {z : Str} {i : Int} (hz : z.length ≤ sizeLine) (h0 : 0 ≤ i) (h1 : i < z.length) (q : ∀ c, c ∈ ls z → Q (.str (tx [c])) H) : rIxA K (.str z) (.int i) H Q := by
  obtain ⟨j, rfl⟩ := Int.eq_ofNat_of_zero_le h0
  have hj : j < (ls z).length := by rw [ls_len]; exact Int.ofNat_lt.mp h1
  exact ixS hz (List.getElem?_eq_getElem hj) (q _ (List.getElem_mem hj))
def Sgn (y : Str) : Prop := ∃ c, y = tx [c] ∧ isLB c = true
theorem join_sgn : ∀ {ys : List Str}, (∀ y ∈ ys, Sgn y) → (Str.join ("" : Str) ys).length = ys.length ∧ (∀ c ∈ ls (Str.join ("" : Str) ys), isLB c = true) ∧ (ys.map (·.length)).sum = ys.length := by
  intro ys h
  rw [← ls_len, ls_join0]
  induction ys with
  | nil => exact ⟨rfl, fun c hc => by simp at hc, rfl⟩
  | cons y ys ih =>
    obtain ⟨c, rfl, hc⟩ := h y List.mem_cons_self
    obtain ⟨h1, h2, h3⟩ := ih fun z hz => h z (List.mem_cons_of_mem _ hz)
    refine ⟨by simp only [List.map_cons, List.flatten_cons, List.length_append, ls_tx, h1, List.length_cons, List.length_nil]; omega, fun d hd => ?_, by simp only [List.map_cons, List.sum_cons, h3, tx_len, List.length_cons, List.length_nil]; omega⟩
    rw [List.map_cons, List.flatten_cons, ls_tx, List.mem_append] at hd
    rcases hd with hd | hd
    · rw [List.mem_singleton] at hd
      rw [hd]
      exact hc
    · exact h2 d hd
theorem snoc_all {α : Type} {p : α → Prop} {l : List α} {x : α} (h : ∀ y ∈ l, p y) (hx : p x) : ∀ y ∈ l ++ [x], p y := fun y hy => by
  rcases List.mem_append.mp hy with hy | hy
  · exact h y hy
  · rw [List.mem_singleton] at hy
    rw [hy]
    exact hx
theorem mem_sLet {c : Nat} (h : c ∈ ls ("abcdefghijklmnopqrstuvwxyz" : Str)) : isLB c = true := by
  have := mem_let' c
  rw [← this]
  exact decide_eq_true h
theorem len_sLet : ("abcdefghijklmnopqrstuvwxyz" : Str).length = 26 := by decide +kernel
section
variable {P : Program} {w : World} {K : PySem.W.Frag} {mg : Str → Option Value} {base : Heap} {a : Ad}
theorem PoolAt.same {H H' : Hp} {l : Addr} (e : Same H H') (h : PoolAt H l) : PoolAt H' l := by
  obtain ⟨p, q, h1, h2⟩ := h
  exact ⟨p, q, e _ _ h1, h2⟩
theorem PoolAt.ne {H : Hp} {l : Addr} (h : PoolAt H l) {D : Addr} (hD : H D = none) : l ≠ D := by
  obtain ⟨p, q, h1, h2⟩ := h
  exact ne_of_none h1 hD
theorem PoolAt.upd {H : Hp} {l D : Addr} {o : HO} (h : PoolAt H l) (ne : l ≠ D) : PoolAt (L2.upd H D o) l := by
  obtain ⟨p, q, h1, h2⟩ := h
  exact ⟨p, q, by rw [upd_ne ne]; exact h1, h2⟩
theorem ixSi {K : PySem.W.Frag} {H : Hp} {Q : VK} {z : Str} {n c : Nat} {j : Int} (h : z.length ≤ sizeLine) (e : (ls z)[n]? = some c) (hj : j = (n : Int)) (q : Q (.str (tx [c])) H) : rIxA K (.str z) (.int j) H Q := by
  subst hj
  exact ixS h e q
def letN (r m : Int) (j : Nat) : Nat := 97 + ((r + m * (j : Int)) % 26).toNat
def lwd (hd tl : Str) (r m : Int) (j : Nat) : Str := hd ++ tx [letN r m j] ++ tl
theorem lets : ls ("abcdefghijklmnopqrstuvwxyz" : Str) = (List.range 26).map (97 + ·) := by decide +kernel
theorem let_at {r m : Int} {j : Nat} : (ls ("abcdefghijklmnopqrstuvwxyz" : Str))[((r + m * (j : Int)) % 26).toNat]? = some (letN r m j) := by
  have h0 := Int.emod_nonneg (r + m * (j : Int)) (show (26 : Int) ≠ 0 by decide)
  have h1 := Int.emod_lt_of_pos (r + m * (j : Int)) (show (0 : Int) < 26 by decide)
  rw [lets, List.getElem?_map, List.getElem?_range (by omega)]
  rfl
theorem letN_lb {r m : Int} {j : Nat} : isLB (letN r m j) = true := mem_sLet (List.mem_of_getElem? (let_at (r := r) (m := m) (j := j)))
theorem letN_inj {r m : Int} {i j : Nat} (hm : m = 1 ∨ m = 3 ∨ m = 5 ∨ m = 7 ∨ m = 9 ∨ m = 11 ∨ m = 15 ∨ m = 17 ∨ m = 19 ∨ m = 21 ∨ m = 23 ∨ m = 25) (hi : i < 26) (hj : j < 26) (h : letN r m i = letN r m j) : i = j := by
  unfold letN at h
  have a0 := Int.emod_nonneg (r + m * (i : Int)) (show (26 : Int) ≠ 0 by decide)
  have b0 := Int.emod_nonneg (r + m * (j : Int)) (show (26 : Int) ≠ 0 by decide)
  rcases hm with rfl | rfl | rfl | rfl | rfl | rfl | rfl | rfl | rfl | rfl | rfl | rfl <;> omega
theorem lwd_inj {hd tl : Str} {r m : Int} {i j : Nat} (hm : m = 1 ∨ m = 3 ∨ m = 5 ∨ m = 7 ∨ m = 9 ∨ m = 11 ∨ m = 15 ∨ m = 17 ∨ m = 19 ∨ m = 21 ∨ m = 23 ∨ m = 25) (hi : i < 26) (hj : j < 26) (h : lwd hd tl r m i = lwd hd tl r m j) : i = j := by
  have e := congrArg ls h
  unfold lwd at e
  rw [ls_app, ls_app, ls_app, ls_app, ls_tx, ls_tx] at e
  have e := List.append_cancel_left (List.append_cancel_right e)
  exact letN_inj hm hi hj (List.cons.inj e).1
def lwds (hd tl : Str) (r m : Int) (n : Nat) : List Str := (List.range n).map (lwd hd tl r m)
theorem lwds_nodup {hd tl : Str} {r m : Int} {n : Nat} (hm : m = 1 ∨ m = 3 ∨ m = 5 ∨ m = 7 ∨ m = 9 ∨ m = 11 ∨ m = 15 ∨ m = 17 ∨ m = 19 ∨ m = 21 ∨ m = 23 ∨ m = 25) (hn : n ≤ 26) : (lwds hd tl r m n).Nodup := by
  unfold lwds
  rw [List.Nodup, List.pairwise_map]
  refine List.Pairwise.imp_of_mem ?_ (List.nodup_range (n := n))
  intro i j hi hj ne e
  have := List.mem_range.mp hi
  have := List.mem_range.mp hj
  exact ne (lwd_inj hm (by omega) (by omega) e)
theorem lwds_len {hd tl : Str} {r m : Int} {n : Nat} : (lwds hd tl r m n).length = n := by
  unfold lwds
  rw [List.length_map, List.length_range]
theorem lwds_succ {hd tl : Str} {r m : Int} {n : Nat} : lwds hd tl r m (n + 1) = lwds hd tl r m n ++ [lwd hd tl r m n] := by
  unfold lwds
  rw [List.range_succ, List.map_append]
  rfl
theorem lwd_short {hd tl : Str} {r m : Int} {j : Nat} (h1 : hd.length ≤ 2) (h2 : tl.length ≤ 2) (m1 : ∀ c ∈ ls hd, isLB c = true) (m2 : ∀ c ∈ ls tl, isLB c = true) : Short (lwd hd tl r m j) := by
  unfold lwd
  refine ⟨?_, ?_, ?_⟩
  · rw [len_app, len_app, tx_len]
    show 1 ≤ _ + 1 + _
    omega
  · rw [len_app, len_app, tx_len]
    show _ + 1 + _ ≤ 5
    omega
  · intro d hd
    rw [ls_app, ls_app, ls_tx, List.mem_append, List.mem_append, List.mem_singleton] at hd
    rcases hd with (hd | rfl) | hd
    · exact m1 d hd
    · exact letN_lb
    · exact m2 d hd
theorem lwds_short {hd tl : Str} {r m : Int} {n : Nat} (h1 : hd.length ≤ 2) (h2 : tl.length ≤ 2) (m1 : ∀ c ∈ ls hd, isLB c = true) (m2 : ∀ c ∈ ls tl, isLB c = true) : ∀ y ∈ lwds hd tl r m n, Short y := by
  intro y hy
  obtain ⟨j, _, rfl⟩ := List.mem_map.mp hy
  exact lwd_short h1 h2 m1 m2
def spWordsN (K : PySem.W.Frag) : Sp := fun vs H Q _ => ∃ (l : Addr) (n : Nat), vs = [.ref l, .int n] ∧ n ≤ 26 ∧ PoolAt H l ∧
  ∀ (p : Addr) (ws : List Str) (H' : Hp), But l H H' → PoolAt H' l → p ≠ l → H p = none → H' p = some (.lst (ws.map V.str)) → ws.length = n → ws.Nodup → (∀ y ∈ ws, Short y) → Q (.ref p) H'
theorem ok_wordsN (T : Tx P K mg a) : FnOk P w K mg base CX0 3 a.f__law_words a.d__law_words ["pool", "bound"] (spWordsN K) := by
  have F1 : FnOk P w K mg base CX0 1 a.f__law_take a.d__law_take ["pool", "bound"] spTake := ok_take T
  have F2 : FnOk P w K mg base CX0 2 a.f__law_one a.d__law_one ["pool", "things"] (spOne K) := ok_one T
  refine T._law_words.fn.ok sc__law_words (fun vs H Q E h => ?_) (fun cdv A outer s H vs Q E hr h => ?_)
  · obtain ⟨l, n, rfl, _⟩ := h
    rfl
  · obtain ⟨l, n, rfl, hn, hP, k⟩ := h
    have nd := sc__law_words.nd
    have hr1 : Room 1 _ := hr.mono (by decide)
    refine ⟨_, (pss_cons (ps_set (i := 2) nd rfl (Or.inr rfl) pe_str)
      (pss_cons (ps_asg (pe_tup (pa_cons (pe_cf T._law_take F1 hr1 (pa_cons (pv 0) (pa_cons pe_int pa_nil))) (pa_cons (pe_cf T._law_one F2 hr (pa_cons (pv 0) (pa_cons (pe_lst (pa_cons pe_int (pa_cons pe_int (pa_cons pe_int (pa_cons pe_int (pa_cons pe_int (pa_cons pe_int (pa_cons pe_int (pa_cons pe_int (pa_cons pe_int (pa_cons pe_int (pa_cons pe_int (pa_cons pe_int pa_nil))))))))))))) pa_nil))) pa_nil))) (pg_tup rfl (pgs_cons (pg_name (i := 3) nd rfl (Or.inr rfl)) (pgs_cons (pg_name (i := 4) nd rfl (Or.inr rfl)) pgs_nil))))
      (pss_cons (ps_set (i := 5) nd rfl (Or.inr rfl) (pe_join pe_str (pe_lc (own := [("turn", 7)]) (by rfl) nd (pi_range1 rfl T.bi.range (pa_cons (pe_cf T._law_take F1 hr1 (pa_cons (pv 0) (pa_cons pe_int pa_nil))) pa_nil)) (blkOk_by (own := [("turn", 7)]) (N := ["pool", "bound", "letters", "first", "stride", "head", "tail", "turn", "spot"]) (sc := defScope s__law_words) (by decide +kernel)) (fun _ _ _ _ _ => (pg_name (i := 7) nd rfl (Or.inl rfl))) (fun _ _ _ _ _ => pts_nil) (fun _ _ _ _ _ => (pe_cf T._law_one F2 hr (pa_cons (pv 0) (pa_cons (pv 2) pa_nil)))))))
      (pss_cons (ps_set (i := 6) nd rfl (Or.inr rfl) (pe_join pe_str (pe_lc (own := [("turn", 7)]) (by rfl) nd (pi_range1 rfl T.bi.range (pa_cons (pe_cf T._law_take F1 hr1 (pa_cons (pv 0) (pa_cons pe_int pa_nil))) pa_nil)) (blkOk_by (own := [("turn", 7)]) (N := ["pool", "bound", "letters", "first", "stride", "head", "tail", "turn", "spot"]) (sc := defScope s__law_words) (by decide +kernel)) (fun _ _ _ _ _ => (pg_name (i := 7) nd rfl (Or.inl rfl))) (fun _ _ _ _ _ => pts_nil) (fun _ _ _ _ _ => (pe_cf T._law_one F2 hr (pa_cons (pv 0) (pa_cons (pv 2) pa_nil)))))))
      (pss_one (ps_ret (pe_lc (own := [("spot", 8)]) (by rfl) nd (pi_range1 rfl T.bi.range (pa_cons (pv 1) pa_nil)) (blkOk_by (own := [("spot", 8)]) (N := ["pool", "bound", "letters", "first", "stride", "head", "tail", "turn", "spot"]) (sc := defScope s__law_words) (by decide +kernel)) (fun _ _ _ _ _ => (pg_name (i := 8) nd rfl (Or.inl rfl))) (fun _ _ _ _ _ => pts_nil) (fun _ _ _ _ _ => (pe_op (op_addA (K := K)) (pe_op (op_addA (K := K)) (pv 5) (pe_ix (ix_A (K := K)) (pv 2) (pe_op op_mod (cb_int T.bi (pa_cons (pe_op (op_addA (K := K)) (pv 3) (pe_op op_mulA (pv 4) (pv 8))) pa_nil)) pe_int) (fun _ _ => rfl))) (pv 6)))))))))), ?_⟩
    refine ⟨_, rfl, l, 26, rfl, hP, by decide, by decide, fun r0 H1 b1 P1 r00 r01 => ?_⟩
    refine ⟨_, rfl, by show 12 ≤ sizeLine; decide, fun p1 n1 => ?_⟩
    have ne1 := P1.ne n1
    refine ⟨l, _, rfl, P1.upd ne1, .inl ⟨p1, _, rfl, ne1.symm, .inl (.inl upd_same), by simp, by show 12 < 1000; decide, fun i y H2 b2 P2 hy => ?_⟩⟩
    obtain ⟨m, rfl, hm⟩ : ∃ m : Int, y = .int m ∧ (m = 1 ∨ m = 3 ∨ m = 5 ∨ m = 7 ∨ m = 9 ∨ m = 11 ∨ m = 15 ∨ m = 17 ∨ m = 19 ∨ m = 21 ∨ m = 23 ∨ m = 25) := by
      have := List.mem_of_getElem? hy
      simp only [List.mem_cons, List.not_mem_nil, or_false] at this
      rcases this with rfl | rfl | rfl | rfl | rfl | rfl | rfl | rfl | rfl | rfl | rfl | rfl <;> exact ⟨_, rfl, by decide⟩
    have m0 : 0 ≤ m ∧ m ≤ 25 := by omega
    refine ⟨by show 2 ≤ sizeLine; decide, fun pt nt => ?_⟩
    refine ⟨pt, _, rfl, .inl (.inl upd_same), rfl, _, _, rfl, _, _, rfl, rfl, ?_⟩
    have bX : But l H (upd H2 pt (.tup [V.int r0, .int m])) := (b1.trans ((But.same (sNew n1) l).trans b2)).trans (But.same (sNew nt) l)
    have PX : PoolAt (upd H2 pt (.tup [V.int r0, .int m])) l := P2.upd (P2.ne nt)
    refine ⟨⟨_, rfl⟩, _, rfl, l, 3, rfl, PX, by decide, by decide, fun rA HA bA PA_ rA0 rA1 => ⟨rA, rfl, by omega, by omega, fun DA nA => ?_⟩⟩
    refine lc_it (walk_range (lo := 0) (n := rA.toNat)) (fun i H' => PoolAt H' l ∧ But l HA H' ∧ ∃ ys : List Str, H' DA = some (.lst (ys.map V.str)) ∧ ys.length = i ∧ ∀ y ∈ ys, Sgn y) ⟨PA_.upd (PA_.ne nA), But.fr nA (But.refl _ _), [], upd_same, rfl, fun y hy => nomatch hy⟩ (fun _ _ _ _ => trivial) ?_ ?_
    · rintro i x H2 H2' hi ⟨Pz, bz, ys, hA, ly, ay⟩ ⟨rfl, rfl⟩
      refine ⟨rfl, _, rfl, _, rfl, l, _, rfl, Pz, .inr ⟨_, rfl, by rw [len_sLet]; decide, by rw [len_sLet]; decide, fun c H3 b3 P3 hc => ?_⟩⟩
      have nDl : DA ≠ l := (PA_.ne nA).symm
      refine ⟨_, b3 _ _ nDl hA, by rw [List.length_map, ly]; have := sl10; omega, P3.upd nDl.symm, But.fr nA (bz.trans b3), ys ++ [tx [c]], by rw [upd_same, List.map_append]; rfl, by rw [List.length_append, ly]; rfl, snoc_all ay ⟨c, rfl, mem_sLet hc⟩⟩
    rintro HB1 ⟨PB1, bB, ys1, hA, ly, ay⟩
    obtain ⟨j1, j2, j3⟩ := join_sgn ay
    refine ⟨_, DA, ys1, rfl, rfl, .inl (.inl (.inl hA)), by rw [j3, show ("" : Str).length = 0 by decide +kernel]; omega, ?_⟩
    have bY1 := (bX.trans bA).trans bB
    have jl1 : (Txt.join ("" : Str) ys1).length ≤ 2 := by
      rw [txj, j1]
      omega
    have jm1 : ∀ c ∈ ls (Txt.join ("" : Str) ys1), isLB c = true := by
      rw [txj]
      exact j2
    clear bX bA bB PA_ ly hA j1 j2 j3 ay
    refine ⟨⟨_, rfl⟩, _, rfl, l, 3, rfl, PB1, by decide, by decide, fun rA HA bA PA_ rA0 rA1 => ⟨rA, rfl, by omega, by omega, fun DA nA => ?_⟩⟩
    refine lc_it (walk_range (lo := 0) (n := rA.toNat)) (fun i H' => PoolAt H' l ∧ But l HA H' ∧ ∃ ys : List Str, H' DA = some (.lst (ys.map V.str)) ∧ ys.length = i ∧ ∀ y ∈ ys, Sgn y) ⟨PA_.upd (PA_.ne nA), But.fr nA (But.refl _ _), [], upd_same, rfl, fun y hy => nomatch hy⟩ (fun _ _ _ _ => trivial) ?_ ?_
    · rintro i x H2 H2' hi ⟨Pz, bz, ys, hA, ly, ay⟩ ⟨rfl, rfl⟩
      refine ⟨rfl, _, rfl, _, rfl, l, _, rfl, Pz, .inr ⟨_, rfl, by rw [len_sLet]; decide, by rw [len_sLet]; decide, fun c H3 b3 P3 hc => ?_⟩⟩
      have nDl : DA ≠ l := (PA_.ne nA).symm
      refine ⟨_, b3 _ _ nDl hA, by rw [List.length_map, ly]; have := sl10; omega, P3.upd nDl.symm, But.fr nA (bz.trans b3), ys ++ [tx [c]], by rw [upd_same, List.map_append]; rfl, by rw [List.length_append, ly]; rfl, snoc_all ay ⟨c, rfl, mem_sLet hc⟩⟩
    rintro HB2 ⟨PB2, bB, ys2, hA, ly, ay⟩
    obtain ⟨j1, j2, j3⟩ := join_sgn ay
    refine ⟨_, DA, ys2, rfl, rfl, .inl (.inl (.inl hA)), by rw [j3, show ("" : Str).length = 0 by decide +kernel]; omega, ?_⟩
    have bY2 := (bY1.trans bA).trans bB
    have jl2 : (Txt.join ("" : Str) ys2).length ≤ 2 := by
      rw [txj, j1]
      omega
    have jm2 : ∀ c ∈ ls (Txt.join ("" : Str) ys2), isLB c = true := by
      rw [txj]
      exact j2
    clear bY1 bA bB PA_ ly hA j1 j2 j3 ay
    refine ⟨_, rfl, (n : Int), rfl, by omega, by omega, fun D nD => ?_⟩
    have nDl := PB2.ne nD
    have lh := lwds_short (hd := Txt.join ("" : Str) ys1) (tl := Txt.join ("" : Str) ys2) (r := r0) (m := m) (n := n) jl1 jl2 jm1 jm2
    have ln := lwds_nodup (hd := Txt.join ("" : Str) ys1) (tl := Txt.join ("" : Str) ys2) (r := r0) (m := m) (n := n) hm hn
    refine lc_it (walk_range (lo := 0) (n := (n : Int).toNat)) (fun i H' => PoolAt H' l ∧ But l H H' ∧ H' D = some (.lst ((lwds (Txt.join ("" : Str) ys1) (Txt.join ("" : Str) ys2) r0 m i).map V.str))) ⟨PB2.upd nDl, bY2.trans (But.same (sNew nD) l), upd_same⟩ (fun _ _ _ _ => trivial) ?_ ?_
    · rintro i x H2 H2' hi ⟨Pz, bz, hA⟩ ⟨rfl, rfl⟩
      have hi' : i < n := hi
      have S26 := len_sLet
      have sl := sl10
      refine ⟨rfl, _, rfl, _, rfl, _, rfl, _, rfl, _, rfl, mulI (mulx_ok (a := 10) (b := 10) (by omega) (by omega) (by decide)) (addI (intI ?_))⟩
      refine ⟨_, _, rfl, rfl, (show (0 : Int) < 26 by decide), ?_⟩
      have n0 := Int.emod_nonneg (r0 + m * (i : Int)) (show (26 : Int) ≠ 0 by decide)
      refine ixSi (n := ((r0 + m * (i : Int)) % 26).toNat) (by rw [S26]; decide) let_at (by rw [Int.zero_add]; omega) ?_
      refine addS (by rw [tx_len]; show _ + 1 ≤ _; omega) ⟨_, rfl, addS (by rw [len_app, tx_len]; show _ + 1 + _ ≤ _; omega) ?_⟩
      have wsl : (lwds (Txt.join ("" : Str) ys1) (Txt.join ("" : Str) ys2) r0 m i).length < sizeLine := by rw [lwds_len]; omega
      refine ⟨_, hA, by rw [List.length_map]; exact wsl, Pz.upd nDl, But.fr2 bY2 nDl.symm nD bz, ?_⟩
      rw [upd_same, lwds_succ, List.map_append]
      rfl
    · rintro H3 ⟨P3, b3, hA⟩
      exact k D _ H3 b3 P3 nDl.symm (bY2.non nDl.symm nD) hA lwds_len ln lh
end
end Z
set_option maxRecDepth 100000
set_option maxHeartbeats 4000000
namespace Z
open PySem PySem.Spec PyProof.Rows L2
theorem But.tr {K : PySem.W.Frag} {l : Addr} {H H' : Hp} (b : But l H H') (h : PoolAt H l) {t : Tr} {v : V} (d : Dp K H v t.d) : Dp K H' v t.d := by
  obtain ⟨p, q, h1, _⟩ := h
  exact tr_tk (b.tk h1) t d
theorem But.trs {K : PySem.W.Frag} {l : Addr} {H H' : Hp} (b : But l H H') (h : PoolAt H l) {ts : List Tr} {vs : List V} (d : DpAll K H vs (ts.map Tr.d)) : DpAll K H' vs (ts.map Tr.d) := by
  obtain ⟨p, q, h1, _⟩ := h
  exact dpAll_tk (b.tk h1) d
section
variable {P : Program} {w : World} {K : PySem.W.Frag} {mg : Str → Option Value} {base : Heap} {a : Ad}
def Tr.Of (ws : List Str) (ds : List Int) (t : Tr) : Prop := (∀ y ∈ t.ws, y ∈ ws) ∧ ∀ y ∈ t.ns, y ∈ ds
def spTreeG (K : PySem.W.Frag) (n : Nat) : Sp := fun vs H Q _ => ∃ (l pw pd : Addr) (ws : List Str) (ds : List Int), vs = [.ref l, .ref pw, .ref pd, .int (n : Nat)] ∧ PoolAt H l ∧ pw ≠ l ∧ pd ≠ l ∧ H pw = some (.lst (ws.map V.str)) ∧ H pd = some (.lst (ds.map V.int)) ∧
  ws ≠ [] ∧ ws.length < 1000 ∧ ds.length < 1000 ∧ (∀ y ∈ ws, Word y) ∧ (∀ y ∈ ds, 0 ≤ y ∧ y ≤ 9) ∧ 1 ≤ n ∧
  ∀ (v : V) (t : Tr) H', But l H H' → PoolAt H' l → Dp K H' v t.d → t.Ok → t.deep ≤ n → t.Of ws ds → Q v H'
theorem map_at {α : Type} {f : α → V} {xs : List α} {i : Nat} {y : V} (h : (xs.map f)[i]? = some y) : ∃ x, xs[i]? = some x ∧ y = f x := by
  rw [List.getElem?_map] at h
  cases e : xs[i]? with
  | none => rw [e] at h; cases h
  | some x => rw [e] at h; cases h; exact ⟨x, rfl, rfl⟩
theorem cho_of {ws : List Str} {ds : List Int} {a b c e : Tr} (h1 : a.Of ws ds) (h2 : b.Of ws ds) (h3 : c.Of ws ds) (h4 : e.Of ws ds) : (Tr.cho a b c e).Of ws ds := by
  refine ⟨fun y hy => ?_, fun y hy => ?_⟩
  · have hy : y ∈ a.ws ++ b.ws ++ c.ws ++ e.ws := hy
    rw [List.mem_append, List.mem_append, List.mem_append] at hy
    rcases hy with ((h | h) | h) | h
    · exact h1.1 y h
    · exact h2.1 y h
    · exact h3.1 y h
    · exact h4.1 y h
  · have hy : y ∈ a.ns ++ b.ns ++ c.ns ++ e.ns := hy
    rw [List.mem_append, List.mem_append, List.mem_append] at hy
    rcases hy with ((h | h) | h) | h
    · exact h1.2 y h
    · exact h2.2 y h
    · exact h3.2 y h
    · exact h4.2 y h
theorem ok_treeG (T : Tx P K mg a) : ∀ n : Nat, FnOk P w K mg base CX0 (n + 3) a.f__law_tree a.d__law_tree ["pool", "words", "digits", "deep"] (spTreeG K n)
  | 0 => fnNo fun vs H Q E ⟨_, _, _, _, _, _, _, _, _, _, _, _, _, _, _, _, h, _⟩ => by omega
  | n + 1 => by
    have IH : FnOk P w K mg base CX0 (n + 3) a.f__law_tree a.d__law_tree ["pool", "words", "digits", "deep"] (spTreeG K n) := ok_treeG T n
    have F1 : FnOk P w K mg base CX0 1 a.f__law_take a.d__law_take ["pool", "bound"] spTake := ok_take T
    have F2 : FnOk P w K mg base CX0 2 a.f__law_one a.d__law_one ["pool", "things"] (spOne K) := ok_one T
    refine T._law_tree.fn.ok sc__law_tree (fun vs H Q E h => ?_) (fun cdv A outer s H vs Q E hr h => ?_)
    · obtain ⟨l, pw, pd, ws, ds, rfl, _⟩ := h
      rfl
    · obtain ⟨l, pw, pd, ws, ds, rfl, hP, nw, ndl, hw, hd, w0, wl, dl, wW, dD, hn, k⟩ := h
      have nd := sc__law_tree.nd
      have hr1 : Room 1 _ := hr.mono (by omega)
      have hr2 : Room 2 _ := hr.mono (by omega)
      refine ⟨_, (pss_cons (ps_if (PW.pt (pw_and (pt_cmpR op_gt (pv 3) pe_int (nomark _)) (pw_and1 (pt_cmpR (op_eqX hr) (pe_cf T._law_take F1 hr1 (pa_cons (pv 0) (pa_cons pe_int pa_nil))) pe_int (nomark _)))))
          (pss_one (ps_ret (cb_tuple T.bi (pa_cons (pe_lc (own := [("part", 4)]) (by rfl) nd (pi_range1 rfl T.bi.range (pa_cons pe_int pa_nil)) (blkOk_by (own := [("part", 4)]) (N := ["pool", "words", "digits", "deep", "part"]) (sc := defScope s__law_tree) (by decide +kernel)) (fun _ _ _ _ _ => (pg_name (i := 4) nd rfl (Or.inl rfl))) (fun _ _ _ _ _ => pts_nil) (fun _ _ _ _ _ => (pe_cf T._law_tree IH hr (pa_cons (pv 0) (pa_cons (pv 1) (pa_cons (pv 2) (pa_cons (pe_op op_sub (pv 3) pe_int) pa_nil))))))) pa_nil)))) pss_nil)
        (pss_cons (ps_if (PW.pt (pw_and (pt_cmpR (op_neX hr) (pv 2) (pe_lst pa_nil) (nomark _)) (pw_and1 (pt_cmpR (op_eqX hr) (pe_cf T._law_take F1 hr1 (pa_cons (pv 0) (pa_cons pe_int pa_nil))) pe_int (nomark _)))))
          (pss_one (ps_ret (pe_cf T._law_one F2 hr2 (pa_cons (pv 0) (pa_cons (pv 2) pa_nil))))) pss_nil)
        (pss_one (ps_ret (pe_cf T._law_one F2 hr2 (pa_cons (pv 0) (pa_cons (pv 1) pa_nil))))))), ?_⟩
      refine ⟨_, rfl, _, _, rfl, rfl, _, rfl, ?_⟩
      have rest : ∀ {H1 : Hp}, But l H H1 → PoolAt H1 l → (tSeq (tIfS (tAnd (tTest (tOp (rNeX K) (tVar 2) (tLst tNil))) (tTest (tOp (rEqX K) (tCall spTake [] E0 (tCons (tVar 0) (tCons (tC (.int 3)) tNil))) (tC (.int 0))))) (tRet (tCall (spOne K) [] E0 (tCons (tVar 0) (tCons (tVar 2) tNil)))) tNext) (tRet (tCall (spOne K) [] E0 (tCons (tVar 0) (tCons (tVar 1) tNil)))))
          { nx := fun _ H' => Q .non H', rt := Q } [some (.ref l), some (.ref pw), some (.ref pd), some (.int ((n + 1 : Nat) : Int)), none] H1 := by
        intro H1 b1 P1
        have hd1 := b1 _ _ ndl hd
        have hw1 := b1 _ _ nw hw
        have leafW : ∀ {H2 : Hp}, But l H H2 → PoolAt H2 l → spOne K [.ref l, .ref pw] H2 Q L2.E0 := fun {H2} b2 P2 => by
          refine ⟨l, _, rfl, P2, .inl ⟨pw, _, rfl, nw, .inl (.inl (b2 _ _ nw hw)), fun e => w0 (List.map_eq_nil_iff.mp e), by rw [List.length_map]; exact wl, fun i y HZ bZ PZ hy => ?_⟩⟩
          obtain ⟨z, hz, rfl⟩ := map_at hy
          have hm := List.mem_of_getElem? hz
          exact k _ (.var z) _ (b2.trans bZ) PZ (.str z) (wW z hm) (show 1 ≤ n + 1 by omega) ⟨fun y hy => by rw [List.mem_singleton.mp hy]; exact hm, fun y hy => nomatch hy⟩
        refine ⟨_, rfl, Nat.zero_le _, fun pe ne => ?_⟩
        refine neL0 (.inl (.inl (by rw [upd_ne (ne_of_none hd1 ne)]; exact hd1))) upd_same ?_
        have b2 : But l H (upd H1 pe (.lst [])) := b1.trans (But.same (sNew ne) l)
        have P2 : PoolAt (upd H1 pe (.lst [])) l := P1.upd (P1.ne ne)
        refine ⟨_, rfl, ?_⟩
        cases hds : ds with
        | nil => exact ⟨_, rfl, _, rfl, leafW b2 P2⟩
        | cons d0 dr =>
          have ne0 : ds ≠ [] := by rw [hds]; exact List.cons_ne_nil _ _
          refine ⟨_, rfl, l, 3, rfl, P2, by decide, by decide, fun r HY bY PY r0 r1 => ?_⟩
          have bA := b2.trans bY
          refine eqI ?_
          refine ⟨_, rfl, ?_⟩
          by_cases hz : r = 0
          · rw [decide_eq_true hz]
            refine ⟨_, rfl, _, rfl, l, _, rfl, PY, .inl ⟨pd, _, rfl, ndl, .inl (.inl (bA _ _ ndl hd)), fun e => ne0 (List.map_eq_nil_iff.mp e), by rw [List.length_map]; exact dl, fun i y HZ bZ PZ hy => ?_⟩⟩
            obtain ⟨m, hm, rfl⟩ := map_at hy
            have hm := List.mem_of_getElem? hm
            exact k _ (.con m) _ (bA.trans bZ) PZ (.int m) (dD m hm) (show 1 ≤ n + 1 by omega) ⟨(fun y hy => nomatch hy), fun y hy => by rw [List.mem_singleton.mp hy]; exact hm⟩
          · rw [decide_eq_false hz]
            exact ⟨_, rfl, _, rfl, leafW bA PY⟩
      by_cases hn1 : (1 : Int) < ((n + 1 : Nat) : Int)
      · rw [decide_eq_true hn1]
        refine ⟨_, rfl, l, 3, rfl, hP, by decide, by decide, fun r H1 b1 P1 r0 r1 => ?_⟩
        refine eqI ?_
        refine ⟨_, rfl, ?_⟩
        by_cases hz : r = 0
        · rw [decide_eq_true hz]
          refine ⟨4, rfl, by decide, by decide, fun D nD => ?_⟩
          have nDl := P1.ne nD
          refine lc_it (walk_range (lo := 0) (n := (4 : Int).toNat)) (fun i H' => PoolAt H' l ∧ But l H H' ∧ ∃ (us : List V) (ts : List Tr), H' D = some (.lst us) ∧ DpAll K H' us (ts.map Tr.d) ∧ ts.length = i ∧ ∀ t ∈ ts, t.Ok ∧ t.deep ≤ n ∧ t.Of ws ds)
            ⟨P1.upd nDl, But.fr2 b1 nDl.symm nD b1, [], [], upd_same, .nil, rfl, fun y hy => nomatch hy⟩ (fun _ _ _ _ => trivial) ?_ ?_
          · rintro i x H2 H2' hi ⟨Pz, bz, us, ts, hA, hD, lt, at_⟩ ⟨rfl, rfl⟩
            have hi' : i < 4 := hi
            refine ⟨rfl, _, rfl, _, rfl, _, rfl, _, rfl, _, _, rfl, rfl, ?_⟩
            refine ⟨l, pw, pd, ws, ds, ?_, Pz, nw, ndl, bz _ _ nw hw, bz _ _ ndl hd, w0, wl, dl, wW, dD, by omega, fun v t H3 b3 P3 hv ok hdp of => ?_⟩
            · show [V.ref l, .ref pw, .ref pd, .int (((n + 1 : Nat) : Int) - 1)] = _
              rw [show ((n + 1 : Nat) : Int) - 1 = (n : Int) by omega]
            · have hA3 := b3 _ _ nDl.symm hA
              have ul : us.length < sizeLine := by
                have := DpAll.length hD
                rw [List.length_map] at this
                have := sl10
                omega
              have tkk : TK H3 (upd H3 D (.lst (us ++ [v]))) := TK.lst hA3
              refine ⟨us, hA3, ul, P3.upd nDl, But.fr2 b1 nDl.symm nD (bz.trans b3), us ++ [v], ts ++ [t], upd_same, ?_, by rw [List.length_append, lt]; rfl, snoc_all at_ ⟨ok, hdp, of⟩⟩
              exact dpAll_tk (ts := ts ++ [t]) tkk (by rw [List.map_append]; exact DpAll.app (b3.trs Pz hD) (.cons hv .nil))
          · rintro H2 ⟨P2, b2, us, ts, hA, hD, lt, at_⟩
            refine tupL (.inl (.inl hA)) fun p H3 n3 s3' hp => ?_
            match ts, lt with
            | [t1, t2, t3, t4], _ =>
              have a1 := at_ t1 (by simp)
              have a2 := at_ t2 (by simp)
              have a3 := at_ t3 (by simp)
              have a4 := at_ t4 (by simp)
              have hD' : DpAll K H3 us [t1.d, t2.d, t3.d, t4.d] := dpAll_same s3' hD
              refine k _ (.cho t1 t2 t3 t4) _ (b2.trans (But.same s3' l)) (P2.same s3') (.tup (.inl (.inl hp)) hD') ⟨a1.1, a2.1, a3.1, a4.1⟩ ?_ (cho_of a1.2.2 a2.2.2 a3.2.2 a4.2.2)
              show 1 + max (max t1.deep t2.deep) (max t3.deep t4.deep) ≤ n + 1
              omega
        · rw [decide_eq_false hz]
          exact rest b1 P1
      · rw [decide_eq_false hn1]
        exact rest (But.refl _ _) hP
end
end Z
set_option maxRecDepth 100000
set_option maxHeartbeats 4000000
namespace Z
open PySem PySem.Spec PyProof.Rows L2
theorem lk1 {m f : Str} {v : V} (h : (m == f) = false := by decide) : List.lookup m [(f, v)] = none := by simp [List.lookup, h]
theorem join_text2 (a b c e : Tr) : ("(" : Str) ++ a.text ++ "=" ++ b.text ++ "?" ++ c.text ++ ":" ++ e.text ++ ")" = (Tr.cho a b c e).text := by
  rw [← join_text]
  apply str_ext
  simp only [ls_app]
  have h0 : ls Str.empty = [] := rfl
  rw [h0, List.nil_append]
section
variable {P : Program} {w : World} {K : PySem.W.Frag} {mg : Str → Option Value} {base : Heap} {a : Ad}
theorem ok_ltext (T : Tx P K mg a) : ∀ n : Nat, FnOk P w K mg base CX0 (n + 1) a.f__law_tree_text a.d__law_tree_text ["tree"] (spText K n)
  | 0 => fnNo fun vs H Q E ⟨v, t, _, _, _, h, _⟩ => by
    have := deep_pos t
    omega
  | n + 1 => by
    have IH : FnOk P w K mg base CX0 (n + 1) a.f__law_tree_text a.d__law_tree_text ["tree"] (spText K n) := ok_ltext T n
    refine T._law_tree_text.fn.ok sc__law_tree_text (fun vs H Q E h => ?_) (fun cdv A outer s H vs Q E hr h => ?_)
    · obtain ⟨v, t, rfl, _⟩ := h
      rfl
    · obtain ⟨v, t, rfl, hv, ok, hd, hn, q⟩ := h
      have nd := sc__law_tree_text.nd
      refine ⟨_, (pss_cons (ps_if (pt_val (cb_isi T.bi (pa_cons (pv 0) (pa_cons (gl_ty rfl T.bi.tuple PyProof.Rows.boot_tuple) pa_nil))))
        (pss_cons (ps_asg (pe_lc (own := [("part", 5)]) (by rfl) nd (pi_tup (pv 0)) (blkOk_by (own := [("part", 5)]) (N := ["tree", "near", "far", "yes", "no", "part"]) (sc := defScope s__law_tree_text) (by decide +kernel)) (fun _ _ _ _ _ => (pg_name (i := 5) nd rfl (Or.inl rfl))) (fun _ _ _ _ _ => pts_nil) (fun _ _ _ _ _ => (pe_cf T._law_tree_text IH hr (pa_cons (pv 5) pa_nil)))) (pg_unl rfl (pgs_cons (pg_name (i := 1) nd rfl (Or.inl rfl)) (pgs_cons (pg_name (i := 2) nd rfl (Or.inl rfl)) (pgs_cons (pg_name (i := 3) nd rfl (Or.inl rfl)) (pgs_cons (pg_name (i := 4) nd rfl (Or.inl rfl)) pgs_nil))))))
          (pss_one (ps_ret (pe_op op_addA (pe_op op_addA (pe_op op_addA (pe_op op_addA (pe_op op_addA (pe_op op_addA (pe_op op_addA (pe_op op_addA pe_str (pv 1)) pe_str) (pv 2)) pe_str) (pv 3)) pe_str) (pv 4)) pe_str)))) pss_nil)
        (pss_one (ps_ret (cb_str T.bi (pa_cons (pv 0) pa_nil))))), ?_⟩
      refine ⟨_, rfl, isiTr hv ?_⟩
      refine ⟨_, rfl, ?_⟩
      cases t with
      | con m =>
        obtain rfl := tr_con hv
        exact ⟨_, rfl, strI (int_small ok) (q _ fun _ _ e => e)⟩
      | var x =>
        obtain rfl := tr_var hv
        exact ⟨_, rfl, strS (q _ fun _ _ e => e)⟩
      | cho a1 b1 c1 e1 =>
        obtain ⟨p, v1, v2, v3, v4, rfl, sq, h1, h2, h3, h4⟩ := tr_cho hv
        refine ⟨_, rfl, p, rfl, ⟨_, sq⟩, fun D hD => ?_⟩
        refine lc_it (walk_tup (xs := [v1, v2, v3, v4])) (fun i H' => H' D = some (.lst (([a1, b1, c1, e1].take i).map fun t => V.str t.text)) ∧ Same H H') ⟨upd_same, sNew hD⟩ (fun _ _ _ ⟨_, sm⟩ => SqT.same sm sq) ?_ ?_
        · rintro i x H1 H1' hi ⟨hA, sm⟩ ⟨rfl, hx⟩
          obtain ⟨t, ht, hdt⟩ := get4 (K := K) (H := H) hx h1 h2 h3 h4
          refine ⟨rfl, _, rfl, x, t, rfl, tr_same sm hdt, kid_ok ht ok, by have := kid_deep ht; omega, by omega, fun H2 s2 => ?_⟩
          have hi' : i < 4 := hi
          refine ⟨_, s2 _ _ hA, ?_, ?_, sUpd hD (sm.trans s2)⟩
          · rw [List.length_map, List.length_take]
            exact Nat.lt_of_le_of_lt (Nat.min_le_left _ _) (Nat.lt_trans hi' (by decide))
          · rw [upd_same, List.take_succ, ht, List.map_append]
            rfl
        · rintro H1 ⟨hA, sm⟩
          refine ⟨D, _, rfl, .inl (.inl hA), rfl, _, _, rfl, _, _, rfl, _, _, rfl, _, _, rfl, rfl, ?_⟩
          obtain ⟨oa, ob, oc, oe⟩ : a1.Ok ∧ b1.Ok ∧ c1.Ok ∧ e1.Ok := ok
          have hdd : (Tr.cho a1 b1 c1 e1).deep = 1 + max (max a1.deep b1.deep) (max c1.deep e1.deep) := rfl
          have t1 := text_small oa (by omega)
          have t2 := text_small ob (by omega)
          have t3 := text_small oc (by omega)
          have t4 := text_small oe (by omega)
          have k1 : ("(" : Str).length = 1 := by decide +kernel
          have k2 : ("=" : Str).length = 1 := by decide +kernel
          have k3 : ("?" : Str).length = 1 := by decide +kernel
          have k4 : (":" : Str).length = 1 := by decide +kernel
          have k5 : (")" : Str).length = 1 := by decide +kernel
          have sl := sl10
          refine ⟨_, rfl, addS (by first | omega | (simp only [len_app]; omega)) (addS (by first | omega | (simp only [len_app]; omega)) ⟨_, rfl, addS (by first | omega | (simp only [len_app]; omega)) (addS (by first | omega | (simp only [len_app]; omega)) ⟨_, rfl, addS (by first | omega | (simp only [len_app]; omega)) (addS (by first | omega | (simp only [len_app]; omega)) ⟨_, rfl, addS (by first | omega | (simp only [len_app]; omega)) (addS (by first | omega | (simp only [len_app]; omega)) ?_)⟩)⟩)⟩)⟩
          rw [join_text2]
          exact q _ sm
def Shows (K : PySem.W.Frag) (H : Hp) (x : V) : Prop := (∃ d, Dp K H x d ∧ d.showable = true ∧ d.depth ≤ 60 ∧ d.shown.length ≤ sizeLine) ∨ ∃ e, x = .ref e ∧ H e = some (.dK [])
theorem Shows.same {H H' : Hp} {x : V} (e : Same H H') (h : Shows K H x) : Shows K H' x := by
  rcases h with ⟨d, h1, h2⟩ | ⟨p, h1, h2⟩
  · exact .inl ⟨d, dp_same e h1, h2⟩
  · exact .inr ⟨p, h1, e _ _ h2⟩
theorem Shows.str {H : Hp} {x : V} (h : Shows K H x) : ∃ s : Str, ∀ H', Same H H' → ∀ Q : VK, Q (.str s) H' → rRepr K [x] H' Q := by
  rcases h with ⟨d, h1, h2, h3, h4⟩ | ⟨p, rfl, h2⟩
  · exact ⟨d.shown, fun H' e Q q => reprD (dp_same e h1) h2 h3 h4 q⟩
  · exact ⟨_, fun H' e Q q => repr0 (e _ _ h2) q⟩
end
end Z
set_option maxRecDepth 100000
set_option maxHeartbeats 4000000
namespace Z
open PySem PySem.Spec PyProof.Rows L2
theorem plp_back {f : List Nat → Option (Tr × List Nat)} (h : ∀ l t r, f l = some (t, r) → ls t.text ++ r = l) {a b c e : Tr} {l z : List Nat} (hp : plp f codes l = some ([a, b, c, e], z)) : ls a.text ++ (61 :: (ls b.text ++ (63 :: (ls c.text ++ (58 :: (ls e.text ++ (41 :: z))))))) = l := by
  have step : ∀ {s : Nat} {ss l : List Nat} {t : Tr} {ts : List Tr} {z : List Nat}, plp f (s :: ss) l = some (t :: ts, z) → ∃ q, ls t.text ++ s :: q = l ∧ plp f ss q = some (ts, z) := fun {s ss l t ts z} e => by
    unfold plp at e
    split at e
    · rename_i t' c' q e1
      split at e
      · rename_i hcs
        split at e
        · rename_i us y e2
          cases e
          exact ⟨q, by rw [← hcs]; exact h _ _ _ e1, e2⟩
        · cases e
      · cases e
    · cases e
  obtain ⟨q1, h1, p1⟩ := step hp
  obtain ⟨q2, h2, p2⟩ := step p1
  obtain ⟨q3, h3, p3⟩ := step p2
  obtain ⟨q4, h4, p4⟩ := step p3
  have : q4 = z := by
    unfold plp at p4
    cases p4
    rfl
  rw [← h1, ← h2, ← h3, ← h4, this]
theorem pl_back : ∀ (d : Nat) (l : List Nat) (t : Tr) (r : List Nat), pl d l = some (t, r) → ls t.text ++ r = l
  | 0, l, t, r, h => by cases h
  | d + 1, [], t, r, h => by cases h
  | d + 1, c :: q, t, r, h => by
    unfold pl at h
    split at h
    · rename_i hc
      cases h
      unfold isDB at hc
      simp at hc
      rw [con_text ⟨by omega, by omega⟩]
      show (48 + ((c : Int) - 48).toNat) :: q = _
      rw [show 48 + ((c : Int) - 48).toNat = c by omega]
    · split at h
      · cases h
        show ls (tx ((c :: q).takeWhile isLB)) ++ _ = _
        rw [ls_tx]
        exact List.takeWhile_append_dropWhile
      · split at h
        · cases h
        · rename_i h3
          unfold plx at h
          split at h
          · rename_i a b c' e' z e2
            cases h
            have := plp_back (fun l t r => pl_back d l t r) e2
            rw [cho_text]
            have hc : c = 40 := by omega
            rw [hc]
            simp only [List.cons_append, List.append_assoc, List.nil_append]
            rw [this]
          · cases h
theorem planOf_text {z : Str} {t : Tr} (h : planOf z = some t) : t.text = z := by
  unfold planOf at h
  split at h
  · rename_i u e
    cases h
    have := pl_back 3 _ _ _ e
    rw [List.append_nil] at this
    exact str_ext this
  · cases h
def ShowsAs (K : PySem.W.Frag) (H : Hp) (x : V) (s : Str) : Prop := (∃ d, Dp K H x d ∧ d.showable = true ∧ d.depth ≤ 60 ∧ d.shown.length ≤ sizeLine ∧ s = d.shown) ∨ ∃ e, x = .ref e ∧ H e = some (.dK []) ∧ s = (PyData.dict []).shown
theorem ShowsAs.same {K : PySem.W.Frag} {H H' : Hp} {x : V} {s : Str} (e : Same H H') (h : ShowsAs K H x s) : ShowsAs K H' x s := by
  rcases h with ⟨d, h1, h2⟩ | ⟨p, h1, h2, h3⟩
  · exact .inl ⟨d, dp_same e h1, h2⟩
  · exact .inr ⟨p, h1, e _ _ h2, h3⟩
theorem ShowsAs.repr {K : PySem.W.Frag} {H : Hp} {x : V} {s : Str} {Q : VK} (h : ShowsAs K H x s) (q : Q (.str s) H) : rRepr K [x] H Q := by
  rcases h with ⟨d, h1, h2, h3, h4, rfl⟩ | ⟨p, rfl, h2, rfl⟩
  · exact reprD h1 h2 h3 h4 q
  · exact repr0 h2 q
def Plain (z : Str) (n : Nat) : Prop := z.length ≤ n ∧ ∀ c ∈ ls z, c < 16 ^ 8
theorem Plain.shows {K : PySem.W.Frag} {H : Hp} {z : Str} {n : Nat} (h : Plain z n) (hn : n ≤ 100000) : ShowsAs K H (.str z) (reprText z) := by
  have sl := PySem.sizeLine_eq
  refine .inl ⟨_, .str z, by simp [PyData.showable], by simp [PyData.depth], ?_, by simp only [PyData.shown]⟩
  simp only [PyData.shown]
  have h1 := PySem.StrLaws.reprText_len z h.2
  have h2 := h.1
  omega
theorem cut_plain {z : Str} {n : Nat} (h : Plain z n) (lo hi : Option Int) : ∀ c ∈ ls (cutS z lo hi), c < 16 ^ 8 := fun c hc => by
  unfold cutS at hc
  have : c ∈ (z.cps.toList.drop (HT.sIx z.length 0 lo)).take (HT.sIx z.length z.length hi - HT.sIx z.length 0 lo) := by simpa [ls] using hc
  exact h.2 c (List.mem_of_mem_drop (List.mem_of_mem_take this))
theorem cut_lo {z : Str} {k : Nat} (hk : k ≤ z.length) : (cutS z none (some (k : Nat))).length = k := by
  unfold cutS
  rw [HT.sIx_none, HT.sIx_nat, Nat.min_eq_left hk]
  show (List.toArray _).size = k
  rw [List.size_toArray, List.length_take, List.length_drop, Array.length_toList]
  show min (k - 0) (z.length - 0) = k
  omega
theorem cut_hi {z : Str} {k : Nat} : (cutS z (some (k : Nat)) none).length = z.length - k := by
  unfold cutS
  rw [HT.sIx_none, HT.sIx_nat]
  show (List.toArray _).size = _
  rw [List.size_toArray, List.length_take, List.length_drop, Array.length_toList]
  show min (z.length - min k z.length) (z.length - min k z.length) = z.length - k
  omega
theorem app_plain {a b : Str} (h1 : ∀ c ∈ ls a, c < 16 ^ 8) (h2 : ∀ c ∈ ls b, c < 16 ^ 8) : ∀ c ∈ ls (a ++ b), c < 16 ^ 8 := fun c hc => by
  rw [ls_app, List.mem_append] at hc
  rcases hc with hc | hc
  · exact h1 c hc
  · exact h2 c hc
theorem tyX_same {K : PySem.W.Frag} {H H' : Hp} {x : V} {t : Value} (k : Same H H') (h : TyX K H x t) : TyX K H' x t := by
  cases h with
  | base h =>
    cases h with
    | non => exact .base .non
    | bl b => exact .base (.bl b)
    | int i => exact .base (.int i)
    | str z => exact .base (.str z)
    | flt z => exact .base (.flt z)
    | lst e => exact .base (.lst (k _ _ e))
    | frz e => exact .base (.frz (k _ _ e))
    | tup e => exact .base (.tup (k _ _ e))
    | dK e => exact .base (.dK (k _ _ e))
    | dT e => exact .base (.dT (k _ _ e))
    | ins e cl ha hn htk hm => exact .base (.ins (k _ _ e) cl ha hn htk hm)
  | byt b => exact .byt b
  | set e => exact .set (k _ _ e)
  | kList e c => exact .kList e c
  | kTuple e c => exact .kTuple e c
  | kDict e c => exact .kDict e c
  | fTuple e => exact .fTuple (k _ _ e)
  | fDict e => exact .fDict (k _ _ e)
theorem po_same {K : PySem.W.Frag} {C : Addr} {H H' : Hp} {x : V} {r : Option Tr} (k : Same H H') (h : PO K C H x r) : PO K C H' x r := by
  cases h with
  | str z hz => exact .str z hz
  | own h => exact .own (h.same k)
  | int n => exact .int n
  | oth h k1 k2 e k3 k4 => exact .oth (tyX_same k h) k1 k2 e k3 k4
section
variable {X : Cx} {CX : CXT} {k : Nat} {f C : Addr} {fd : FuncData} {ps : List Str} {sp : Sp} {E : L2.St → XK} {x : Str} {p pos : Pos} {e : Expr} {es : List Expr} {t : TA}
def tMakeX (C : Addr) (sp : Sp) (E : L2.St → XK) (t : TA) : TE := fun σ H Q => t σ H fun vs H1 => ∀ o dx, H1 o = none → H1 dx = none → dx ≠ o → sp (.ref o :: vs) (upd (upd H1 dx (.own o)) o (.ins C dx [])) (fun v H2 => v = .non ∧ Q (.ref o) H2) (E σ)
theorem pe_makeX (M : Mk X.K C f) (F : FnOk X.prog X.w X.K X.mg X.base CX k f fd ps sp) (room : Room (k + 1) X.A) (hg : Gl X x) (hm : X.mg x = some (.ref C)) (bd : Binds X.K fd ps []) (go : ∀ σ, PassesAt CX X σ (E σ))
    (ha : PA X (e :: es) t) (hdb : (x == ("__debug__" : Str)) = false := by decide) (he : starEach (e :: es) X.env = (false, eval e X.env) :: starEach es X.env := by rfl) (hpl : (backTo pos (starEach es X.env)).any (·.1) = false := by rfl) :
    PE X (.Call (.Name x p) (e :: es) [] pos) (tMakeX C sp E t) := by
  constructor
  intro pins s0 σ H0 Q I0 h
  refine wpAny_Call_Name_kw (ld_glob I0 hg hm ?_ hdb)
  refine PySem.W.callWith_K (h₀ := X.base) I0.ok.mod.kin M.kp (thn (ha.run pos pins s0 σ H0 _ I0 h) ?_) he hpl
  rintro us s ⟨vs, H, I, rv, want⟩
  refine ⟨I.kIn, ?_⟩
  have fresh1 := I.hok.fresh (Nat.le_succ s.heap.objs.size)
  have fresh0 := I.hok.fresh (Nat.le_refl s.heap.objs.size)
  have wish := want _ _ fresh1 fresh0 (Nat.ne_of_lt (Nat.lt_succ_self _))
  have J := Inv.made (C := C) I
  have many : Vals (V.ref (s.heap.objs.size + 1) :: vs) (Value.ref (s.heap.objs.size + 1) :: us) := .cons rfl rv
  have few : (Value.ref (s.heap.objs.size + 1) :: us).length = ps.length := many.length.symm.trans (F.len _ _ _ _ wish)
  have bound := bd _ (Value.ref (s.heap.objs.size + 1) :: us) J.kIn (by rw [List.append_nil]; exact few)
  rw [List.append_nil] at bound
  have runs := F.run _ X.stack _ _ ⟨Value.ref (s.heap.objs.size + 1) :: us, []⟩ _ _ _ (E σ) (room.make C us []) (J.env0.make C us []) bound many wish
  refine wpAny_call (make_map (f := f) I.kIn M.makes M.init (beq_iff_eq.mp M.fn) (codeAny_mono runs ?_))
  intro res s' back
  match res, back with
  | .error er, back => exact go σ pins _ _ er s' J back
  | .ok (.ret u), back =>
    obtain ⟨v, H', I3, rv', ev, q3⟩ := J.after back
    subst ev
    exact ⟨rv', ⟨V.ref (s.heap.objs.size + 1), H', I3, rfl, q3⟩⟩
  | .ok .next, back => exact back.elim
  | .ok .brk, back => exact back.elim
  | .ok .cont, back => exact back.elim
end
section
variable {P : Program} {w : World} {K : PySem.W.Frag} {mg : Str → Option Value} {base : Heap} {a : Ad}
def spStr (K : PySem.W.Frag) (C : Addr) : Sp := fun vs H Q _ => ∃ (p : Addr) (t : Tr), vs = [.ref p] ∧ TermAt K C H p t ∧ t.deep ≤ 3 ∧ ∀ H', Same H H' → Q (.str t.text) H'
theorem ok_str (T : Tx P K mg a) : FnOk P w K mg base CX0 5 a.f_Term___str__ a.d_Term___str__ ["self"] (spStr K a.C_Term) := by
  have F1 : FnOk P w K mg base CX0 4 a.f_text_of a.d_text_of ["plan"] (spText K 3) := ok_text T 3
  refine T.Term___str__.ok sc_Term___str__ (fun vs H Q E h => ?_) (fun cdv A outer s H vs Q E hr h => ?_)
  · obtain ⟨p, t, rfl, _⟩ := h
    rfl
  · obtain ⟨p, t, rfl, ⟨dx, u, h1, h2, h3⟩, hd, q⟩ := h
    refine ⟨_, (pss_one (ps_ret (pe_joined1 (pe_fmt (pe_cf T.text_of F1 hr (pa_cons (pe_fld (pv 0) rfl) pa_nil)))))), ?_⟩
    refine ⟨_, rfl, p, _, dx, _, u, rfl, h1, T.c_Term, T.no_Term_tree, rfl, ?_⟩
    refine ⟨u, t, rfl, h2, h3.1, hd, by decide, fun H1 s1 => .inl ⟨_, rfl, ?_, q _ s1⟩⟩
    have := text_small h3.1 hd
    have := sl10
    omega
inductive WQ (K : PySem.W.Frag) (H : Hp) : V → Bool → Prop
  | str (z : Str) (h : z.length ≤ sizeLine) : WQ K H (.str z) (wordB (ls z))
  | oth {x : V} {ty : String} (h : TyX K H x (.type ty)) (k : kitB ty "str" = some false) : WQ K H x false
def spWordX (K : PySem.W.Frag) : Sp := fun vs H Q _ => ∃ (x : V) (b : Bool), vs = [x] ∧ WQ K H x b ∧ ∀ H', Same H H' → Q (.bl b) H'
theorem ok_wordX (T : Tx P K mg a) : FnOk P w K mg base CX0 1 a.f_is_word a.d_is_word ["value"] (spWordX K) := by
  refine T.is_word.fn.ok sc_is_word (fun vs H Q E h => ?_) (fun cdv A outer s H vs Q E hr h => ?_)
  · obtain ⟨x, b, rfl, _⟩ := h
    rfl
  · obtain ⟨x, b, rfl, hx, q⟩ := h
    have nd := sc_is_word.nd
    refine ⟨_, (pss_cons (ps_if (PW.pt (pw_or (pt_not (pt_val (cb_isi T.bi (pa_cons (pv 0) (pa_cons (gl_ty rfl T.bi.str PyProof.Rows.boot_str) pa_nil))))) (pw_or1 (pt_not (pt_chain op_le op_le pe_int (cb_len T.bi (pa_cons (pv 0) pa_nil)) (pe_gi T.v_MOST_LETTERS))))))
      (pss_one (ps_ret pe_bl)) pss_nil)
      (pss_one (ps_ret (pe_cmpR (op_eqX hr) (pe_lc (own := [("sign", 1)]) (by rfl) nd (pi_str (pv 0)) (blkOk_by (own := [("sign", 1)]) (N := ["value", "sign"]) (sc := defScope s_is_word) (by decide +kernel)) (fun _ _ _ _ _ => (pg_name (i := 1) nd rfl (Or.inl rfl))) (fun _ _ _ _ _ => pts_one (pt_cmpR (op_notInA (K := K)) (pv 1) (pe_gs T.v_LETTERS) rfl)) (fun _ _ _ _ _ => (pv 1))) (pe_lst pa_nil) (nomark _))))), ?_⟩
    refine ⟨_, rfl, ?_⟩
    cases hx with
    | oth h k => exact isiTy h k ⟨_, rfl, q H (Same.refl H)⟩
    | str z hz =>
    refine isiTy (.base (.str z)) k_ss ?_
    refine ⟨_, rfl, ?_⟩
    refine ⟨_, rfl, lenS hz ?_⟩
    refine ⟨1, _, rfl, rfl, _, rfl, ?_⟩
    have L : (z.length : Int) = ((ls z).length : Int) := by rw [ls_len]
    by_cases h1 : (1 : Int) ≤ (z.length : Int)
    · rw [decide_eq_true h1]
      refine ⟨_, 8, rfl, rfl, ?_⟩
      by_cases h2 : (z.length : Int) ≤ 8
      · refine ⟨_, rfl, ?_⟩
        rw [decide_eq_true h2]
        have hw : wordB (ls z) = (ls z).all isLB := by
          unfold wordB
          rw [decide_eq_true (show 1 ≤ (ls z).length by omega), decide_eq_true (show (ls z).length ≤ 8 by omega)]
          rfl
        refine ⟨_, rfl, z, rfl, fun D hD => ?_⟩
        refine lc_it (walk_str (z := z)) (fun i H' => ∃ acc : List V, H' D = some (.lst acc) ∧ Same H H' ∧ acc.length ≤ i ∧ acc.isEmpty = ((ls z).take i).all isLB) ⟨[], upd_same, sNew hD, Nat.le_refl _, rfl⟩ (fun _ _ _ _ => trivial) ?_ ?_
        · rintro i x H1 H1' hi ⟨acc, hA, sm, ln, em⟩ ⟨rfl, c, hc, rfl⟩
          refine ⟨rfl, _, rfl, ninSgn ?_⟩
          have hc' : (ls z)[i]? = some c := by
            show z.cps.toList[i]? = some c
            rw [Array.getElem?_toList]
            exact hc
          have tk : (ls z).take (i + 1) = (ls z).take i ++ [c] := by rw [List.take_succ, hc']; rfl
          refine ⟨_, rfl, ?_⟩
          rw [mem_let']
          cases hl : isLB c with
          | true => exact ⟨acc, hA, sm, Nat.le_succ_of_le ln, by rw [tk, List.all_append, ← em]; simp [hl]⟩
          | false =>
            have small : acc.length < sizeLine := by
              have : i < z.length := hi
              omega
            refine ⟨_, rfl, acc, hA, small, acc ++ [.str ⟨#[c]⟩], upd_same, fun b o e => ?_, by rw [List.length_append]; exact Nat.succ_le_succ ln, ?_⟩
            · rw [upd_ne (ne_of_none e hD)]
              exact sm b o e
            · rw [tk, List.all_append]
              simp [hl]
        · rintro H1 ⟨acc, hA, sm, ln, em⟩
          refine ⟨Nat.zero_le _, fun p hp => ?_⟩
          refine eqL0 (.inl (.inl (by rw [upd_ne (ne_of_none hA hp)]; exact hA))) upd_same ?_
          have : (ls z).take z.cps.size = ls z := List.take_of_length_le (by simp [ls])
          rw [em, this, ← hw]
          exact q _ (sm.trans (sNew hp))
      · refine ⟨_, rfl, ?_⟩
        rw [decide_eq_false h2]
        have hw : wordB (ls z) = false := by
          unfold wordB
          rw [decide_eq_false (show ¬ (ls z).length ≤ 8 by omega), Bool.and_false, Bool.false_and]
        rw [hw] at q
        exact q _ (fun _ _ e => e)
    · rw [decide_eq_false h1]
      have hw : wordB (ls z) = false := by
        unfold wordB
        rw [decide_eq_false (show ¬ 1 ≤ (ls z).length by omega), Bool.false_and, Bool.false_and]
      rw [hw] at q
      exact ⟨_, rfl, q _ (fun _ _ e => e)⟩
end
end Z
set_option maxRecDepth 100000
set_option maxHeartbeats 4000000
namespace Z
open PySem PySem.Spec PyProof.Rows L2
def sgOf (b : Bool) : Str := if b then " <= " else " := "
def dtext (x : Str) (t : Tr) (b : Bool) : Str := x ++ sgOf b ++ t.text
def dpair (l : List Str) : Option (Str × Tr) := match l with
  | [x, y] => if wordB (ls x) = true then (match planOf y with
    | some t => some (x, t)
    | none => none) else none
  | _ => none
def dpart (z : Str) (b : Bool) : Option (Str × Tr) := dpair (Txt.split z (sgOf b))
def dparts (z : Str) : Option (Str × Tr × Bool) := match dpart z false with
  | some p => some (p.1, p.2, false)
  | none => match dpart z true with
    | some p => some (p.1, p.2, true)
    | none => none
theorem dpair_some {l : List Str} {x : Str} {t : Tr} (h : dpair l = some (x, t)) : l = [x, t.text] ∧ Word x ∧ t.Ok ∧ t.deep ≤ 3 := by
  unfold dpair at h
  split at h
  · rename_i x' y
    split at h
    · rename_i hw
      split at h
      · rename_i u e
        cases h
        have := planOf_fine e
        rw [planOf_text e]
        exact ⟨rfl, wordB_iff.mp hw, this.1, this.2⟩
      · cases h
    · cases h
  · cases h
theorem dpart_some {z : Str} {b : Bool} {x : Str} {t : Tr} (h : dpart z b = some (x, t)) : Txt.split z (sgOf b) = [x, t.text] ∧ Word x ∧ t.Ok ∧ t.deep ≤ 3 ∧ dtext x t b = z := by
  obtain ⟨e, h1, h2, h3⟩ := dpair_some h
  refine ⟨e, h1, h2, h3, ?_⟩
  have := PySem.StrLaws.join_split z (sgOf b)
  rw [e] at this
  exact this
theorem dparts_some {z x : Str} {t : Tr} {b : Bool} (h : dparts z = some (x, t, b)) : Word x ∧ t.Ok ∧ t.deep ≤ 3 ∧ dtext x t b = z := by
  unfold dparts at h
  split at h
  · rename_i p e
    cases h
    exact (dpart_some e).2
  · split at h
    · rename_i p e
      cases h
      exact (dpart_some e).2
    · cases h
theorem no_space : ∀ t : Tr, t.Ok → ∀ c ∈ ls t.text, c ≠ 32
  | .con n, ok, c, hc => by
    rw [con_text ok] at hc
    obtain ⟨h1, h2⟩ : 0 ≤ n ∧ n ≤ 9 := ok
    have := List.mem_singleton.mp hc
    omega
  | .var w, ok, c, hc => by
    have h : isLet c := (show Word w from ok).2.2 c hc
    obtain ⟨h1, h2⟩ := h
    omega
  | .cho a b d e, ok, c, hc => by
    obtain ⟨oa, ob, od, oe⟩ : a.Ok ∧ b.Ok ∧ d.Ok ∧ e.Ok := ok
    rw [cho_text] at hc
    simp only [List.mem_cons, List.mem_append, List.not_mem_nil, or_false] at hc
    rcases hc with rfl | hc | rfl | hc | rfl | hc | rfl | hc | rfl
    · decide
    · exact no_space a oa c hc
    · decide
    · exact no_space b ob c hc
    · decide
    · exact no_space d od c hc
    · decide
    · exact no_space e oe c hc
    · decide
theorem word_space {x : Str} (h : Word x) : ∀ c ∈ ls x, c ≠ 32 := fun c hc => by
  obtain ⟨h1, h2⟩ : isLet c := h.2.2 c hc
  omega
theorem spl_skip {S q : List Nat} : ∀ {p acc : List Nat}, (∀ c ∈ p, c ≠ 32) → TL.spl (32 :: S) 0 acc (p ++ q) = TL.spl (32 :: S) 0 (acc ++ p) q
  | [], acc, _ => by rw [List.nil_append, List.append_nil]
  | c :: p, acc, h => by
    rw [List.cons_append, TL.spl_miss (TL.pre_of_head _ _ (h c (List.mem_cons_self ..))), spl_skip (fun d hd => h d (List.mem_cons_of_mem _ hd)), List.append_assoc]
    rfl
theorem sg_ls (b : Bool) : ls (sgOf b) = [32, if b then 60 else 58, 61, 32] := by cases b <;> decide +kernel
theorem split_ls (z : Str) (b : Bool) : (Txt.split z (sgOf b)).map ls = TL.spl [32, if b then 60 else 58, 61, 32] 0 [] (ls z) := by
  have h := TL.split_spl z (sgOf b) (by rw [show TL.tl (sgOf b) = ls (sgOf b) from rfl, sg_ls]; exact List.cons_ne_nil _ _) (TL.kind_ok (by cases b <;> decide +kernel))
  rw [show TL.tl (sgOf b) = ls (sgOf b) from rfl, sg_ls] at h
  exact h
theorem map_ls {l m : List Str} (h : l.map ls = m.map ls) : l = m := TL.map_tl_inj h
theorem split_own {x : Str} {t : Tr} {b : Bool} (hx : Word x) (ht : t.Ok) : Txt.split (dtext x t b) (sgOf b) = [x, t.text] := by
  refine map_ls ?_
  rw [split_ls]
  unfold dtext
  rw [ls_app, ls_app, List.append_assoc, spl_skip (word_space hx), List.nil_append, sg_ls]
  have hp : TL.pre [32, if b then 60 else 58, 61, 32] (32 :: ([if b then 60 else 58, 61, 32] ++ ls t.text)) = true := TL.pre_self [32, if b then 60 else 58, 61, 32] _
  rw [List.cons_append, TL.spl_hit hp, TL.spl_pass]
  show _ :: TL.spl _ 0 [] (ls t.text) = _
  have := spl_skip (S := [if b then 60 else 58, 61, 32]) (q := []) (acc := []) (no_space t ht)
  rw [List.append_nil] at this
  rw [this, TL.spl_nil]
  rfl
theorem split_oth {x : Str} {t : Tr} {b : Bool} (hx : Word x) (ht : t.Ok) : Txt.split (dtext x t b) (sgOf (!b)) = [dtext x t b] := by
  refine map_ls ?_
  rw [split_ls]
  unfold dtext
  rw [ls_app, ls_app, List.append_assoc, spl_skip (word_space hx), List.nil_append, sg_ls]
  rw [List.cons_append, TL.spl_miss (by cases b <;> rfl)]
  rw [show ([if b = true then 60 else 58, 61, 32] ++ ls t.text) = [if b = true then 60 else 58, 61] ++ ([32] ++ ls t.text) from rfl, spl_skip (by intro c hc; simp only [List.mem_cons, List.not_mem_nil, or_false] at hc; rcases hc with rfl | rfl <;> (try split) <;> decide)]
  rw [List.cons_append, TL.spl_miss (by
    cases h : ls t.text with
    | nil => cases b <;> rfl
    | cons c q =>
      cases hq : TL.pre [32, if (!b) = true then 60 else 58, 61, 32] (32 :: ([] ++ (c :: q))) with
      | false => rfl
      | true =>
        exfalso
        have e : (32 :: c :: q).take 4 = [32, if (!b) = true then 60 else 58, 61, 32] := eq_of_beq hq
        have : (32 : Nat) ∈ ls t.text := by
          rw [h]
          have hm : (32 : Nat) ∈ (c :: q).take 3 := by
            rw [List.take_succ_cons] at e
            injection e with e1 e2
            rw [e2]
            simp
          exact List.mem_of_mem_take hm
        exact no_space t ht 32 this rfl)]
  rw [List.nil_append]
  have := spl_skip (S := [if (!b) = true then 60 else 58, 61, 32]) (q := []) (acc := (ls x ++ [32] ++ [if b = true then 60 else 58, 61]) ++ [32]) (no_space t ht)
  rw [List.append_nil] at this
  rw [this, TL.spl_nil]
  show [_] = [ls (x ++ sgOf b ++ t.text)]
  rw [ls_app, ls_app, sg_ls]
  simp
theorem dparts_text {x : Str} {t : Tr} {b : Bool} (hx : Word x) (ht : t.Ok) (hd : t.deep ≤ 3) : dparts (dtext x t b) = some (x, t, b) := by
  have own : dpart (dtext x t b) b = some (x, t) := by
    unfold dpart
    rw [split_own hx ht]
    unfold dpair
    show (if wordB (ls x) = true then _ else none) = _
    rw [if_pos (wordB_iff.mpr hx), plan_text ht hd]
  unfold dparts
  cases b with
  | false => rw [own]
  | true =>
    have oth : dpart (dtext x t true) false = none := by
      unfold dpart
      rw [show sgOf false = sgOf (!true) from rfl, split_oth hx ht]
      rfl
    rw [oth, own]
end Z
set_option maxRecDepth 100000
set_option maxHeartbeats 4000000
namespace Z
open PySem PySem.Spec PyProof.Rows L2
section
variable {P : Program} {w : World} {K : PySem.W.Frag} {mg : Str → Option Value} {base : Heap} {a : Ad}
def spDParts (K : PySem.W.Frag) : Sp := fun vs H Q _ => ∃ x : V, vs = [x] ∧ ((∃ z : Str, x = .str z ∧ z.length + 2 ≤ sizeLine ∧ (dparts z = none → ∀ H', Same H H' → Q .non H') ∧
  ∀ y t b, dparts z = some (y, t, b) → ∀ p H', Same H H' → H' p = some (.tup [.str y, .str t.text, .bl b]) → Q (.ref p) H') ∨ (∃ ty, TyX K H x (.type ty) ∧ kitB ty "str" = some false ∧ Q .non H))
theorem ok_dparts (T : Tx P K mg a) : FnOk P w K mg base CX0 7 a.f_deed_parts a.d_deed_parts ["text"] (spDParts K) := by
  have F1 : FnOk P w K mg base CX0 1 a.f_is_word a.d_is_word ["value"] spWord := ok_word T
  have F2 : FnOk P w K mg base CX0 6 a.f_plan_of a.d_plan_of ["value"] (spPlanOf K a.C_Term) := ok_plan_of T
  refine T.deed_parts.fn.ok sc_deed_parts (fun vs H Q E h => ?_) (fun cdv A outer s H vs Q E hr h => ?_)
  · obtain ⟨x, rfl, _⟩ := h
    rfl
  · obtain ⟨x, rfl, h⟩ := h
    have nd := sc_deed_parts.nd
    have hr1 : Room 1 _ := hr.mono (by decide)
    refine ⟨_, (pss_cons (ps_if (pt_not (pt_val (cb_isi T.bi (pa_cons (pv 0) (pa_cons (gl_ty rfl T.bi.str PyProof.Rows.boot_str) pa_nil))))) (pss_one (ps_ret pe_non)) pss_nil)
      (pss_cons (ps_for PassesOwn.never rfl (pi_tup (pe_tup (pa_cons (pe_tup (pa_cons (pe_gs T.v_AT_ONCE) (pa_cons pe_bl pa_nil))) (pa_cons (pe_tup (pa_cons (pe_gs T.v_AT_THE_END) (pa_cons pe_bl pa_nil))) pa_nil)))) (pg_tup rfl (pgs_cons (pg_name (i := 1) nd rfl (Or.inl rfl)) (pgs_cons (pg_name (i := 2) nd rfl (Or.inl rfl)) pgs_nil)))
        (pss_cons (ps_set (i := 3) nd rfl (Or.inl rfl) (pe_bm PySem.F.plainAttrs_str PySem.F.slot_str_split PySem.F.type_str_split mt_split (pv 0) (pa_cons (pv 1) pa_nil)))
        (pss_one (ps_if (PW.pt (pw_and (pt_cmpR (op_eqX hr) (cb_len T.bi (pa_cons (pv 3) pa_nil)) pe_int (nomark _)) (pw_and (pt_val (pe_cf T.is_word F1 hr1 (pa_cons (pe_ix ix_A (pv 3) pe_int (fun _ _ => rfl)) pa_nil))) (pw_and1 (pt_cmp (pc_notN (pe_cf T.plan_of F2 hr (pa_cons (pe_ix ix_A (pv 3) pe_int (fun _ _ => rfl)) pa_nil))))))))
          (pss_one (ps_ret (pe_tup (pa_cons (pe_ix ix_A (pv 3) pe_int (fun _ _ => rfl)) (pa_cons (pe_ix ix_A (pv 3) pe_int (fun _ _ => rfl)) (pa_cons (pv 2) pa_nil)))))) pss_nil))))
      (pss_one (ps_ret pe_non)))), ?_⟩
    rcases h with ⟨z, rfl, hz, q0, q1⟩ | ⟨ty, ht, hk, q⟩
    · have hz1 : z.length ≤ sizeLine := by omega
      refine ⟨_, rfl, isiTy (.base (.str z)) k_ss ?_⟩
      refine ⟨_, rfl, ?_⟩
      refine ⟨by show 2 ≤ sizeLine; decide, fun p1 hp1 => ?_⟩
      refine ⟨by show 2 ≤ sizeLine; decide, fun p2 hp2 => ?_⟩
      refine ⟨by show 2 ≤ sizeLine; decide, fun p0 hp0 => ?_⟩
      have n12 : p1 ≠ p2 := ne_of_none (H := upd H p1 (.tup [V.str (sgOf false), .bl false])) upd_same hp2
      have s0 : Same H (upd (upd (upd H p1 (.tup [V.str (sgOf false), .bl false])) p2 (.tup [V.str (sgOf true), .bl true])) p0 (.tup [V.ref p1, .ref p2])) := ((sNew hp1).trans (sNew hp2)).trans (sNew hp0)
      refine ⟨p0, rfl, ⟨_, .inl (.inl upd_same)⟩, ?_⟩
      refine for_it (walk_tup (xs := [V.ref p1, .ref p2])) (fun n σ H' => ∃ (o1 o2 o3 : Option V), σ = [some (.str z), o1, o2, o3] ∧ Same H H' ∧ H' p0 = some (.tup [V.ref p1, .ref p2]) ∧ H' p1 = some (.tup [V.str (sgOf false), .bl false]) ∧ H' p2 = some (.tup [V.str (sgOf true), .bl true]) ∧
          (1 ≤ n → dpart z false = none) ∧ (2 ≤ n → dpart z true = none))
        ⟨none, none, none, rfl, s0, upd_same, (sNew hp0) _ _ ((sNew hp2) _ _ upd_same), (sNew hp0) _ _ upd_same, fun h => absurd h (by omega), fun h => absurd h (by omega)⟩ (fun n σ H' _ ⟨_, _, _, _, _, hp, _⟩ => .inl (.inl hp)) ?_ ?_
      · rintro n x σ H2 H2' hn ⟨o1, o2, o3, rfl, sm, g0, g1, g2, d1, d2⟩ ⟨rfl, hx⟩
        obtain ⟨b, p, rfl, hb, hn'⟩ : ∃ (b : Bool) (p : Addr), x = .ref p ∧ H2' p = some (.tup [V.str (sgOf b), .bl b]) ∧ n = (if b then 1 else 0) := by
          match n, hx with
          | 0, hx => cases hx; exact ⟨false, _, rfl, g1, rfl⟩
          | 1, hx => cases hx; exact ⟨true, _, rfl, g2, rfl⟩
        refine ⟨p, _, rfl, .inl (.inl hb), rfl, ?_⟩
        refine ⟨_, _, rfl, _, _, rfl, rfl, ?_⟩
        refine ⟨_, rfl, rfl, _, rfl, z, sgOf b, rfl, rfl, by cases b <;> rfl, hz, fun l hl => ?_⟩
        have s1 := sNew (o := .lst ((Txt.split z (sgOf b)).map V.str)) hl
        have few : (Txt.split z (sgOf b)).length ≤ sizeLine := Nat.le_trans (PyProof.Rows.split_le _ _) hz
        have hL : ∀ {H3 : Hp}, Same (upd H2' l (.lst ((Txt.split z (sgOf b)).map V.str))) H3 → SqL K H3 l ((Txt.split z (sgOf b)).map V.str) := fun s => .inl (.inl (s _ _ upd_same))
        have fin : ∀ {H3 : Hp} {o1 o2 o3 : Option V}, Same (upd H2' l (.lst ((Txt.split z (sgOf b)).map V.str))) H3 → dpart z b = none → ∃ o1' o2' o3', [some (V.str z), o1, o2, o3] = [some (V.str z), o1', o2', o3'] ∧ Same H H3 ∧ H3 p0 = some (HO.tup [V.ref p1, V.ref p2]) ∧ H3 p1 = some (HO.tup [V.str (sgOf false), V.bl false]) ∧ H3 p2 = some (HO.tup [V.str (sgOf true), V.bl true]) ∧ (1 ≤ n + 1 → dpart z false = none) ∧ (2 ≤ n + 1 → dpart z true = none) := fun s e => by
          refine ⟨_, _, _, rfl, (sm.trans s1).trans s, s _ _ (s1 _ _ g0), s _ _ (s1 _ _ g1), s _ _ (s1 _ _ g2), fun _ => ?_, fun h => ?_⟩
          · cases b with
            | false => exact e
            | true => exact d1 (by rw [hn']; decide)
          · cases b with
            | false => rw [hn'] at h; exact absurd h (by decide)
            | true => exact e
        refine ⟨_, rfl, lenL (hL (Same.refl _)) ?_⟩
        refine eqI ?_
        refine ⟨_, rfl, ?_⟩
        rw [List.length_map]
        by_cases h2 : (((Txt.split z (sgOf b)).length : Nat) : Int) = 2
        · rw [decide_eq_true h2]
          obtain ⟨x, y, hxy⟩ : ∃ x y, Txt.split z (sgOf b) = [x, y] := by
            match hs : Txt.split z (sgOf b), h2 with
            | [x, y], _ => exact ⟨x, y, rfl⟩
            | [], h => exact absurd h (by decide)
            | [x], h => exact absurd h (by simp)
            | x :: y :: c :: r, h => simp only [List.length_cons] at h; omega
          have lx : x.length ≤ sizeLine := Nat.le_trans (PyProof.Rows.part_short (x := z) (y := sgOf b) (by rw [hxy]; simp)) hz1
          have ly : y.length ≤ sizeLine := Nat.le_trans (PyProof.Rows.part_short (x := z) (y := sgOf b) (by rw [hxy]; simp)) hz1
          have h0 : ∀ {H3 : Hp}, Same (upd H2' l (.lst ((Txt.split z (sgOf b)).map V.str))) H3 → SqL K H3 l [V.str x, V.str y] := fun s => by
            have := hL s
            rw [hxy] at this
            exact this
          refine ⟨_, rfl, ixL (i := 0) (h0 (Same.refl _)) rfl ?_⟩
          refine ⟨x, rfl, lx, fun H3 s3 => ⟨_, rfl, ?_⟩⟩
          cases hw : wordB (ls x) with
          | false =>
            refine fin s3 ?_
            unfold dpart
            rw [hxy]
            show (if wordB (ls x) = true then _ else none) = none
            rw [hw]
            rfl
          | true =>
            refine ⟨_, rfl, ixL (i := 1) (h0 s3) rfl ?_⟩
            refine ⟨_, _, rfl, .str y ly, fun v H4 s4 got => ?_⟩
            have s34 := s3.trans s4
            refine ⟨_, rfl, ?_⟩
            cases hp : planOf y with
            | none =>
              rw [hp] at got
              obtain rfl : v = .non := got
              refine fin s34 ?_
              unfold dpart
              rw [hxy]
              show (if wordB (ls x) = true then _ else none) = none
              rw [hw, hp]
              rfl
            | some t =>
              rw [hp] at got
              rw [none_tr got]
              have hd : dpart z b = some (x, t) := by
                unfold dpart
                rw [hxy]
                show (if wordB (ls x) = true then _ else none) = _
                rw [hw, hp]
                rfl
              refine ⟨_, rfl, ixL (i := 0) (h0 s34) rfl ?_⟩
              refine ⟨_, rfl, ixL (i := 1) (h0 s34) rfl ?_⟩
              refine ⟨_, rfl, by show 3 ≤ sizeLine; decide, fun p5 hp5 => ?_⟩
              refine q1 x t b ?_ p5 _ ((((sm.trans s1).trans s34)).trans (sNew hp5)) (by rw [upd_same, planOf_text hp])
              unfold dparts
              cases b with
              | false => rw [hd]
              | true => rw [d1 (by rw [hn']; decide), hd]
        · rw [decide_eq_false h2]
          refine fin (Same.refl _) ?_
          unfold dpart dpair
          split
          · rename_i x y e
            rw [e] at h2
            exact absurd rfl h2
          · rfl
      · rintro σ H2 ⟨o1, o2, o3, rfl, sm, g0, g1, g2, d1, d2⟩
        refine q0 ?_ H2 sm
        unfold dparts
        rw [d1 (show 1 ≤ 2 by decide), d2 (show 2 ≤ 2 by decide)]
    · refine ⟨_, rfl, isiTy ht hk ?_⟩
      exact ⟨_, rfl, q⟩
end
end Z
set_option maxRecDepth 100000
set_option maxHeartbeats 4000000
namespace Z
open PySem PySem.Spec PyProof.Rows L2
theorem k_bb : kitB "bool" "bool" = some true := by decide +kernel
def dflds (x : Str) (q : Addr) (b : Bool) : List (Str × V) := [("target", .str x), ("source", .ref q), ("is_late", .bl b)]
def DeedAt (K : PySem.W.Frag) (CD CT : Addr) (H : Hp) (p : Addr) (x : Str) (t : Tr) (b : Bool) : Prop := ∃ dx q, H p = some (.ins CD dx (dflds x q b)) ∧ TermAt K CT H q t
theorem DeedAt.same {K : PySem.W.Frag} {CD CT : Addr} {H H' : Hp} {p : Addr} {x : Str} {t : Tr} {b : Bool} (e : Same H H') (h : DeedAt K CD CT H p x t b) : DeedAt K CD CT H' p x t b := by
  obtain ⟨dx, q, h1, h2⟩ := h
  exact ⟨dx, q, e _ _ h1, h2.same e⟩
theorem wq_true {K : PySem.W.Frag} {H : Hp} {x : V} (h : WQ K H x true) : ∃ s, x = .str s ∧ Word s := by
  generalize hb : true = b at h
  cases h with
  | str s h => exact ⟨s, rfl, wordB_iff.mp hb.symm⟩
  | oth h k => cases hb
theorem po_but {K : PySem.W.Frag} {C CD p dx : Addr} {H H' : Hp} {x : V} {t : Tr} (hp : H p = some (.ins CD dx [])) (b : But p H H') (h : PO K C H x (some t)) : PO K C H' x (some t) := by
  generalize hr : some t = r at h
  cases h with
  | str z h => exact .str z h
  | int n => exact .int n
  | oth h => cases hr
  | own h =>
    obtain ⟨d, u, h1, h2, h3⟩ := h
    have ne : ∀ {q : Addr} {o : HO}, H q = some o → o ≠ .ins CD dx [] → q ≠ p := fun {q o} h n z => by
      rw [z, hp] at h
      exact n (Option.some.inj h).symm
    have tk : TK H H' := ⟨fun c ys e => b c _ (ne e (by intro z; cases z)) e, fun c o u e => b c _ (ne e (by intro z; cases z)) e⟩
    exact .own ⟨d, u, b _ _ (ne h1 (by intro z; cases z)) h1, tr_tk tk _ h2, h3⟩
inductive LQ (K : PySem.W.Frag) (H : Hp) : V → Option Bool → Prop
  | bl (b : Bool) : LQ K H (.bl b) (some b)
  | oth {x : V} {ty : String} (h : TyX K H x (.type ty)) (k : kitB ty "bool" = some false) : LQ K H x none
theorem LQ.same {K : PySem.W.Frag} {H H' : Hp} {x : V} {r : Option Bool} (e : Same H H') (h : LQ K H x r) : LQ K H' x r := by
  cases h with
  | bl b => exact .bl b
  | oth h k => exact .oth (tyX_same e h) k
theorem WQ.same {K : PySem.W.Frag} {H H' : Hp} {x : V} {r : Bool} (e : Same H H') (h : WQ K H x r) : WQ K H' x r := by
  cases h with
  | str z h => exact .str z h
  | oth h k => exact .oth (tyX_same e h) k
def Flies (E : XK) (X : Addr) (H : Hp) (v : V) : Prop := ∀ d H1, Same H H1 → H1 d = none → E (.ref X) (some d) (upd H1 d (.xd [("value", v)]))
section
variable {P : Program} {w : World} {K : PySem.W.Frag} {mg : Str → Option Value} {base : Heap} {a : Ad}
def spDInit (K : PySem.W.Frag) (CD CT X : Addr) : Sp := fun vs H Q E => ∃ (p dx : Addr) (x y z : V) (wb : Bool) (r : Option Tr) (lb : Option Bool), vs = [.ref p, x, y, z] ∧ H p = some (.ins CD dx []) ∧ WQ K H x wb ∧ PO K CT H y r ∧ LQ K H z lb ∧
  (wb = false → Flies E X H x) ∧ (wb = true → r = none → Flies E X H y) ∧ (wb = true → ∀ t, r = some t → lb = none → Flies E X H z) ∧
  (∀ s t b H', x = .str s → Word s → r = some t → lb = some b → But p H H' → DeedAt K CD CT H' p s t b → Q .non H')
theorem ok_dinit (T : Tx P K mg a) : FnOk P w K mg base (L2.CX P w) 9 a.f_Deed___init__ a.d_Deed___init__ ["self", "variable", "term", "late"] (spDInit K a.C_Deed a.C_Term a.C_NoDeed) := by
  have F1 : FnOk P w K mg base CX0 1 a.f_is_word a.d_is_word ["value"] (spWordX K) := ok_wordX T
  have F2 : FnOk P w K mg base CX0 6 a.f_plan_of a.d_plan_of ["value"] (spPlanOf K a.C_Term) := ok_plan_of T
  have F3 : FnOk P w K mg base (L2.CX P w) 7 a.f_Term___init__ a.d_Term___init__ ["self", "value"] (spInit K a.C_Term a.C_NoTerm) := ok_init T
  refine T.Deed___init__.okX sc_Deed___init__ (fun vs H Q E h => ?_) (fun cdv A outer s H vs Q E hr h => ?_)
  · obtain ⟨p, dx, x, y, z, wb, r, lb, rfl, _⟩ := h
    rfl
  · obtain ⟨p, dx, x, y, z, wb, r, lb, rfl, hp, hx, hy, hz, q1, q2, q3, q4⟩ := h
    have nd := sc_Deed___init__.nd
    refine ⟨_, (pss_cons (ps_if (pt_not (pt_val (pe_cf T.is_word F1 (hr.mono (by decide)) (pa_cons (pv 1) pa_nil)))) (pss_one (ps_raiseT (takes_of rfl rfl rfl rfl) T.e_NoDeed hr (pa_cons (pv 1) pa_nil))) pss_nil)
      (pss_cons (ps_if (pt_cmp (pc_isN (pe_cf T.plan_of F2 (hr.mono (by decide)) (pa_cons (pv 2) pa_nil)))) (pss_one (ps_raiseT (takes_of rfl rfl rfl rfl) T.e_NoDeed hr (pa_cons (pv 2) pa_nil))) pss_nil)
      (pss_cons (ps_if (pt_not (pt_val (cb_isi T.bi (pa_cons (pv 3) (pa_cons (gl_ty rfl T.bi.bool PyProof.Rows.boot_bool) pa_nil))))) (pss_one (ps_raiseT (takes_of rfl rfl rfl rfl) T.e_NoDeed hr (pa_cons (pv 3) pa_nil))) pss_nil)
      (pss_cons (ps_fld (pv 0) (pv 1) rfl)
      (pss_cons (ps_fld (pv 0) (pe_make T.mk_Term F3 hr rfl T.g_Term T.b_Term___init__ .nil passL (pa_cons (pv 2) pa_nil)) rfl)
      (pss_one (ps_fld (pv 0) (pv 3) rfl))))))), ?_⟩
    refine ⟨_, rfl, x, wb, rfl, hx, fun H1 s1 => ⟨_, rfl, ?_⟩⟩
    cases wb with
    | false => exact ⟨_, rfl, x, rfl, fun d hd => q1 rfl d H1 s1 hd⟩
    | true =>
      refine ⟨_, rfl, y, r, rfl, po_same s1 hy, fun v H2 s2 got => ?_⟩
      have s12 := s1.trans s2
      refine ⟨_, rfl, ?_⟩
      cases r with
      | none =>
        obtain rfl : v = .non := got
        exact ⟨_, rfl, y, rfl, fun d hd => q2 rfl rfl d H2 s12 hd⟩
      | some t =>
        rw [none_tr got]
        have hz2 := hz.same s12
        refine ⟨_, rfl, ?_⟩
        cases hz2 with
        | oth ht hk =>
          refine isiTy ht hk ?_
          refine ⟨_, rfl, ?_⟩
          exact ⟨_, rfl, z, rfl, fun d hd => q3 rfl t rfl rfl d H2 s12 hd⟩
        | bl b =>
          refine isiTy (.base (.bl b)) k_bb ?_
          refine ⟨_, rfl, ?_⟩
          have hp2 := s12 _ _ hp
          obtain ⟨s, rfl, hw⟩ : ∃ s, x = .str s ∧ Word s := wq_true hx
          refine ⟨_, rfl, _, rfl, p, _, dx, [], rfl, hp2, T.c_Deed, T.no_Deed_target, by decide, ?_⟩
          have b3 : But p H (upd H2 p (.ins a.C_Deed dx (putF "target" (.str s) []))) := fun c o hc e => by
            rw [upd_ne hc]
            exact s12 _ _ e
          refine ⟨_, rfl, fun o d n1 n2 ne => ?_⟩
          have n0 : p ≠ o := ne_of_none upd_same n1
          have b4 : Same (upd H2 p (.ins a.C_Deed dx (putF "target" (.str s) []))) (upd (upd (upd H2 p (.ins a.C_Deed dx (putF "target" (.str s) []))) d (.own o)) o (.ins a.C_Term d [])) := fun c u hc => by
            rw [upd_ne (ne_of_none hc n1), upd_ne (ne_of_none hc n2)]
            exact hc
          refine ⟨o, d, y, some t, rfl, upd_same, po_same b4 (po_but hp b3 hy), fun t' v' H5 e but hv dp => ⟨rfl, ?_⟩, fun e => nomatch e⟩
          cases e
          have s5 : Same (upd H2 p (.ins a.C_Deed dx (putF "target" (.str s) []))) H5 := fun c u hc => but c u (ne_of_none hc n1) (b4 c u hc)
          have hp5 := s5 _ _ upd_same
          have tm : TermAt K a.C_Term H5 o t := ⟨d, v', hv, dp, po_fine hy⟩
          refine ⟨_, rfl, p, _, dx, _, rfl, hp5, T.c_Deed, T.no_Deed_source, by show 1 < 1000; decide, ?_⟩
          refine ⟨_, rfl, _, rfl, p, _, dx, _, rfl, upd_same, T.c_Deed, T.no_Deed_is_late, by show 2 < 1000; decide, ?_⟩
          refine q4 s t b _ rfl hw rfl rfl (fun c u hc e => ?_) ⟨dx, o, upd_same, ?_⟩
          · rw [upd_ne hc, upd_ne hc]
            exact s5 _ _ (b3 c u hc e)
          · obtain ⟨d', u', t1, t2, t3⟩ := tm
            have e1 : TK H5 (upd H5 p (.ins a.C_Deed dx (putF "source" (.ref o) (putF "target" (.str s) [])))) := TK.ins hp5
            have hp6 : upd H5 p (.ins a.C_Deed dx (putF "source" (.ref o) (putF "target" (.str s) []))) p = some (.ins a.C_Deed dx (putF "source" (.ref o) (putF "target" (.str s) []))) := upd_same
            exact ⟨d', u', by rw [upd_ne n0.symm, upd_ne n0.symm]; exact t1, tr_tk (e1.trans (TK.ins hp6)) t t2, t3⟩
end
end Z
set_option maxRecDepth 100000
set_option maxHeartbeats 4000000
namespace Z
open PySem PySem.Spec PyProof.Rows L2
section
variable {X : Cx} {CX : CXT} {C f : Addr} {fd : FuncData} {ps : List Str} {sp : Sp} {E : XK} {n : Nat}
structure rEqO (C : Addr) (sp : Sp) (E : XK) (x y : V) (H : Hp) (Q : VK) : Prop where
  h : ∃ a dx fs, x = .ref a ∧ H a = some (.ins C dx fs) ∧ ((∃ b dy gs, y = .ref b ∧ H b = some (.ins C dy gs)) ∨ ∃ z, y = .str z) ∧ sp [x, y] H (fun v H' => ∃ r, v = .bl r ∧ Q (.bl r) H') E
theorem op_eqOwn (F : FnOk X.prog X.w X.K X.mg X.base CX n f fd ps sp) (nf : PySem.W.notFirst X.K C (.type "str") = true) (hs : PySem.W.findIn X.K (.ref C) "__eq__" = some (some (.ref f)))
    (hf : PySem.W.isFn X.K (.ref f) = true) (hb : Binds X.K fd ps []) (hx : Passes CX X E) (hr : Room n X.A) : OpR X (compareOp .Eq) (rEqO C sp E) := by
  intro pins s σ H x y u v Q I rx ry ⟨a, dx, fs, ex, ha, hy, hsp⟩
  subst ex
  obtain rfl : u = Value.ref a := rx
  obtain ⟨mA, J, _⟩ := ins_get I.hok ha
  obtain ⟨od, J, _⟩ := J.look
  obtain ⟨m, hF⟩ := I.fr
  have hl := F.len _ _ _ _ hsp
  have rv : Vals [V.ref a, y] [Value.ref a, v] := .cons rfl (.cons ry .nil)
  have go : wpAny (model X.prog X.w) X.A (call (.ref f) [.ref a, v]) (PySem.W.CmpBack (EP X pins σ Q)) X.xe s := by
    refine wpAny_call (codeAny_mono (F.run X.A X.stack s H ⟨[.ref a, v], []⟩ [.ref a, v] [.ref a, y] _ E hr I.env0 (by
      have := hb s [.ref a, v] I.kIn (by simpa using hl)
      simpa using this) rv hsp) fun r s' hq => ?_)
    cases r with
    | error e => exact hx pins σ H s e s' I hq
    | ok fl =>
      cases fl with
      | ret w =>
        obtain ⟨z, H', I', rz, r, ez, q⟩ := I.after hq
        subst ez
        obtain rfl : w = Value.bool r := rz
        exact ⟨.bl r, H', I', rfl, q⟩
      | next => exact False.elim hq
      | brk => exact False.elim hq
      | cont => exact False.elim hq
  rcases hy with ⟨b, dy, gs, ey, hb'⟩ | ⟨z, ey⟩
  · subst ey
    obtain rfl : v = Value.ref b := ry
    obtain ⟨mB, J', _⟩ := ins_get I.hok hb'
    obtain ⟨od', J', _⟩ := J'.look
    refine PySem.W.cmp_K (op := .Eq) (tb := .ref C) hr.units0 hF I.ok.mod.kin J J'.type (by simp [PySem.W.notFirst]) hs hf go
  · subst ey
    obtain ⟨t, rfl⟩ := ry
    refine PySem.W.cmp_K (op := .Eq) (tb := .type "str") hr.units0 hF I.ok.mod.kin J (PySem.W.Looks.of_pure rfl) nf hs hf go
end
section
variable {P : Program} {w : World} {K : PySem.W.Frag} {mg : Str → Option Value} {base : Heap} {a : Ad}
def spDOf (K : PySem.W.Frag) (CD CT X : Addr) : Sp := fun vs H Q E => ∃ x : V, vs = [x] ∧ ((∃ z : Str, x = .str z ∧ z.length + 2 ≤ sizeLine ∧ (dparts z = none → Flies E X H x) ∧
  ∀ y t b, dparts z = some (y, t, b) → ∀ p H', Same H H' → DeedAt K CD CT H' p y t b → Q (.ref p) H') ∨ (∃ ty, TyX K H x (.type ty) ∧ kitB ty "str" = some false ∧ Flies E X H x))
theorem make_deed {H : Hp} {x z : V} {y : V} {wb : Bool} {r : Option Tr} {lb : Option Bool} {CD CT X o dx : Addr} {R : VK} {E : XK} (ho : H o = none) (hdx : H dx = none) (hx : WQ K H x wb) (hy : PO K CT H y r) (hz : LQ K H z lb)
    (q1 : wb = false → Flies E X H x) (q2 : wb = true → r = none → Flies E X H y) (q3 : wb = true → ∀ t, r = some t → lb = none → Flies E X H z) (q : ∀ s t b H', x = .str s → Word s → r = some t → lb = some b → Same H H' → DeedAt K CD CT H' o s t b → R .non H') :
    spDInit K CD CT X [.ref o, x, y, z] (upd (upd H dx (.own o)) o (.ins CD dx [])) R E := by
  have sm : Same H (upd (upd H dx (.own o)) o (.ins CD dx [])) := fun c u hc => by
    rw [upd_ne (ne_of_none hc ho), upd_ne (ne_of_none hc hdx)]
    exact hc
  refine ⟨o, dx, x, y, z, wb, r, lb, rfl, upd_same, WQ.same sm hx, po_same sm hy, LQ.same sm hz, fun e d H1 s1 => q1 e d H1 (sm.trans s1), fun e1 e2 d H1 s1 => q2 e1 e2 d H1 (sm.trans s1), fun e1 t e2 e3 d H1 s1 => q3 e1 t e2 e3 d H1 (sm.trans s1), fun s t b H' e1 e2 e3 e4 but da => ?_⟩
  exact q s t b H' e1 e2 e3 e4 (fun c u hc => but c u (ne_of_none hc ho) (sm c u hc)) da
theorem ok_dof (T : Tx P K mg a) : FnOk P w K mg base (L2.CX P w) 11 a.f_Deed_of a.d_Deed_of ["text"] (spDOf K a.C_Deed a.C_Term a.C_NoDeed) := by
  have F1 : FnOk P w K mg base CX0 7 a.f_deed_parts a.d_deed_parts ["text"] (spDParts K) := ok_dparts T
  have F2 : FnOk P w K mg base (L2.CX P w) 9 a.f_Deed___init__ a.d_Deed___init__ ["self", "variable", "term", "late"] (spDInit K a.C_Deed a.C_Term a.C_NoDeed) := ok_dinit T
  refine T.Deed_of.okX sc_Deed_of (fun vs H Q E h => ?_) (fun cdv A outer s H vs Q E hr h => ?_)
  · obtain ⟨x, rfl, _⟩ := h
    rfl
  · obtain ⟨x, rfl, h⟩ := h
    have nd := sc_Deed_of.nd
    refine ⟨_, (pss_cons (ps_set (i := 1) nd rfl (Or.inl rfl) (pe_cf T.deed_parts F1 (hr.mono (by decide)) (pa_cons (pv 0) pa_nil)))
      (pss_cons (ps_if (pt_cmp (pc_isN (pv 1))) (pss_one (ps_raiseT (takes_of rfl rfl rfl rfl) T.e_NoDeed hr (pa_cons (pv 0) pa_nil))) pss_nil)
      (pss_cons (ps_asg (pv 1) (pg_tup rfl (pgs_cons (pg_name (i := 2) nd rfl (Or.inl rfl)) (pgs_cons (pg_name (i := 3) nd rfl (Or.inl rfl)) (pgs_cons (pg_name (i := 4) nd rfl (Or.inl rfl)) pgs_nil)))))
      (pss_one (ps_ret (pe_makeK (n := 2) T.mk_Deed F2 hr rfl T.g_Deed T.kb_Deed___init__ passL (pa_cons (pv 2) (pa_cons (pv 3) pa_nil)) (pk_cons (pv 4) pk_nil))))))), ?_⟩
    refine ⟨_, rfl, x, rfl, ?_⟩
    rcases h with ⟨z, rfl, hz, q0, q1⟩ | ⟨ty, ht, hk, q⟩
    · refine .inl ⟨z, rfl, hz, fun e H1 s1 => ?_, fun y t b e p H1 s1 hp => ?_⟩
      · refine ⟨_, rfl, ?_⟩
        refine ⟨_, rfl, ?_⟩
        exact ⟨_, rfl, _, rfl, fun d hd => q0 e d H1 s1 hd⟩
      · have hf := dparts_some e
        refine ⟨_, rfl, ?_⟩
        refine ⟨_, rfl, ?_⟩
        refine ⟨_, rfl, p, _, rfl, .inl (.inl hp), rfl, ?_⟩
        refine ⟨_, _, rfl, _, _, rfl, _, _, rfl, rfl, ?_⟩
        refine ⟨_, rfl, _, rfl, _, rfl, rfl, rfl, fun o dx n1 n2 ne => ?_⟩
        have hl : y.length ≤ sizeLine := Nat.le_trans hf.1.2.1 (by decide)
        refine make_deed (wb := true) (r := some t) (lb := some b) n1 n2 ?_ ?_ (.bl b) (fun e => nomatch e) (fun _ e => nomatch e) (fun _ _ _ e => nomatch e) fun s' t' b' H2 e1 e2 e3 e4 s2 da => ⟨rfl, ?_⟩
        · rw [← wordB_iff.mpr hf.1]
          exact .str y hl
        · rw [← plan_text hf.2.1 hf.2.2.1]
          exact .str _ (Nat.le_trans (text_small hf.2.1 hf.2.2.1) (by decide))
        · cases e1
          cases e3
          cases e4
          exact q1 y t b e _ _ (s1.trans s2) da
    · refine .inr ⟨ty, ht, hk, ?_⟩
      refine ⟨_, rfl, ?_⟩
      refine ⟨_, rfl, ?_⟩
      exact ⟨_, rfl, x, rfl, fun d hd => q d H (Same.refl H) hd⟩
end
end Z
set_option maxRecDepth 100000
set_option maxHeartbeats 4000000
namespace Z
open PySem PySem.Spec PyProof.Rows L2
section
variable {P : Program} {w : World} {K : PySem.W.Frag} {mg : Str → Option Value} {base : Heap} {a : Ad}
theorem tyDeed (T : Tx P K mg a) {H : Hp} {p dx : Addr} {fs : List (Str × V)} (h : H p = some (.ins a.C_Deed dx fs)) : TyX K H (.ref p) (.ref a.C_Deed) := .base (.ins h T.c_Deed T.ty_Deed T.tn T.tt T.mo_Deed)
theorem eqB {K : PySem.W.Frag} {H : Hp} {Q : VK} {i j : Bool} (q : Q (.bl (decide (i = j))) H) : rEqX K (.bl i) (.bl j) H Q := ⟨.inl ⟨rfl, by simpa using q⟩⟩
def spDVar (K : PySem.W.Frag) (CD CT : Addr) : Sp := fun vs H Q _ => ∃ p x t b, vs = [.ref p] ∧ DeedAt K CD CT H p x t b ∧ Q (.str x) H
def spDLate (K : PySem.W.Frag) (CD CT : Addr) : Sp := fun vs H Q _ => ∃ p x t b, vs = [.ref p] ∧ DeedAt K CD CT H p x t b ∧ Q (.bl b) H
def spDTerm (K : PySem.W.Frag) (CD CT : Addr) : Sp := fun vs H Q _ => ∃ p x t b, vs = [.ref p] ∧ DeedAt K CD CT H p x t b ∧ ∀ q, TermAt K CT H q t → Q (.ref q) H
theorem ok_dvar (T : Tx P K mg a) : FnOk P w K mg base CX0 1 a.f_Deed_variable a.d_Deed_variable ["self"] (spDVar K a.C_Deed a.C_Term) := by
  refine T.Deed_variable.ok sc_Deed_variable (fun vs H Q E h => ?_) (fun cdv A outer s H vs Q E hr h => ?_)
  · obtain ⟨p, x, t, b, rfl, _⟩ := h
    rfl
  · obtain ⟨p, x, t, b, rfl, ⟨dx, q, h1, h2⟩, k⟩ := h
    exact ⟨_, pss_one (ps_ret (pe_fld (pv 0) rfl)), _, rfl, p, _, dx, _, _, rfl, h1, T.c_Deed, T.no_Deed_target, rfl, k⟩
theorem ok_dlate (T : Tx P K mg a) : FnOk P w K mg base CX0 1 a.f_Deed_late a.d_Deed_late ["self"] (spDLate K a.C_Deed a.C_Term) := by
  refine T.Deed_late.ok sc_Deed_late (fun vs H Q E h => ?_) (fun cdv A outer s H vs Q E hr h => ?_)
  · obtain ⟨p, x, t, b, rfl, _⟩ := h
    rfl
  · obtain ⟨p, x, t, b, rfl, ⟨dx, q, h1, h2⟩, k⟩ := h
    exact ⟨_, pss_one (ps_ret (pe_fld (pv 0) rfl)), _, rfl, p, _, dx, _, _, rfl, h1, T.c_Deed, T.no_Deed_is_late, rfl, k⟩
theorem ok_dterm (T : Tx P K mg a) : FnOk P w K mg base CX0 1 a.f_Deed_term a.d_Deed_term ["self"] (spDTerm K a.C_Deed a.C_Term) := by
  refine T.Deed_term.ok sc_Deed_term (fun vs H Q E h => ?_) (fun cdv A outer s H vs Q E hr h => ?_)
  · obtain ⟨p, x, t, b, rfl, _⟩ := h
    rfl
  · obtain ⟨p, x, t, b, rfl, ⟨dx, q, h1, h2⟩, k⟩ := h
    exact ⟨_, pss_one (ps_ret (pe_fld (pv 0) rfl)), _, rfl, p, _, dx, _, _, rfl, h1, T.c_Deed, T.no_Deed_source, rfl, k q h2⟩
def spDStr (K : PySem.W.Frag) (CD CT : Addr) : Sp := fun vs H Q _ => ∃ p x t b, vs = [.ref p] ∧ DeedAt K CD CT H p x t b ∧ Word x ∧ t.deep ≤ 3 ∧ ∀ H', Same H H' → Q (.str (dtext x t b)) H'
theorem ok_dstr (T : Tx P K mg a) : FnOk P w K mg base CX0 7 a.f_Deed___str__ a.d_Deed___str__ ["self"] (spDStr K a.C_Deed a.C_Term) := by
  have F1 : FnOk P w K mg base CX0 5 a.f_Term___str__ a.d_Term___str__ ["self"] (spStr K a.C_Term) := ok_str T
  refine T.Deed___str__.ok sc_Deed___str__ (fun vs H Q E h => ?_) (fun cdv A outer s H vs Q E hr h => ?_)
  · obtain ⟨p, x, t, b, rfl, _⟩ := h
    rfl
  · obtain ⟨p, x, t, b, rfl, ⟨dx, q, h1, h2⟩, hw, hd, k⟩ := h
    have nd := sc_Deed___str__.nd
    refine ⟨_, (pss_cons (ps_set (i := 1) nd rfl (Or.inl rfl) (pe_ifExp (pt_val (pe_fld (pv 0) rfl)) (pe_gs T.v_AT_THE_END) (pe_gs T.v_AT_ONCE)))
      (pss_one (ps_ret (pe_joined (PJ.cons (pe_fmt (pe_fld (pv 0) rfl)) (PJ.cons (pe_fmt (pv 1)) (PJ.cons (pe_fmtO F1 T.m_Term___str__.at_ T.m_Term___str__.fn T.fm_Term T.mo_Term T.b_Term___str__ pass0 hr (pe_fld (pv 0) rfl)) PJ.nil))))))), ?_⟩
    have hok : t.Ok := by obtain ⟨_, _, _, _, f⟩ := h2; exact f.1
    have lx : x.length ≤ 8 := hw.2.1
    have lt := text_small hok hd
    have sl := sl10
    have ls_ : ∀ b, (sgOf b).length = 4 := by decide +kernel
    have emp : ∀ y : Str, Str.empty ++ y = y := fun y => str_ext (by rw [ls_app]; rfl)
    have fin : ∀ b', b' = b → (tJs [tFmt (tFld K (tVar 0) "target"), tFmt (tVar 1), tFmtO a.C_Term (spStr K a.C_Term) E0 (tFld K (tVar 0) "source")] Str.empty [some (V.ref p), some (V.str (sgOf b'))] H fun out H1 => Q (.str out) H1) := by
      intro b' eb
      subst eb
      have l4 := ls_ b'
      refine ⟨_, rfl, p, _, dx, _, _, rfl, h1, T.c_Deed, T.no_Deed_target, rfl, .inl ⟨x, rfl, by omega, x, rfl, by rw [emp]; omega, ?_⟩⟩
      refine ⟨_, rfl, .inl ⟨sgOf b', rfl, by omega, _, rfl, by rw [emp, len_app]; omega, ?_⟩⟩
      have i1 := h2
      obtain ⟨e1, u1, z1, _⟩ := i1
      refine ⟨_, rfl, p, _, dx, _, _, rfl, h1, T.c_Deed, T.no_Deed_source, rfl, q, _, _, rfl, z1, q, t, rfl, h2, hd, fun H' s' => ⟨_, rfl, _, rfl, by rw [emp, len_app, len_app]; omega, ?_⟩⟩
      rw [emp]
      exact k H' s'
    refine ⟨_, rfl, p, _, dx, _, _, rfl, h1, T.c_Deed, T.no_Deed_is_late, rfl, b, rfl, ?_⟩
    cases b with
    | true => exact fin true rfl
    | false => exact fin false rfl
def spDEq (K : PySem.W.Frag) (CD CT : Addr) : Sp := fun vs H Q _ => ∃ p x t b y, vs = [.ref p, y] ∧ DeedAt K CD CT H p x t b ∧ ((∃ q x' t' b', y = .ref q ∧ DeedAt K CD CT H q x' t' b' ∧ Q (.bl (decide (x = x') && (decide (b = b') && decide (t = t')))) H) ∨ (∃ z, y = .str z ∧ Q (.bl false) H))
theorem ok_deq (T : Tx P K mg a) : FnOk P w K mg base CX0 3 a.f_Deed___eq__ a.d_Deed___eq__ ["self", "other"] (spDEq K a.C_Deed a.C_Term) := by
  have F1 : FnOk P w K mg base CX0 1 a.f_Term___eq__ a.d_Term___eq__ ["self", "other"] (spEqT K a.C_Term) := ok_eq T
  refine T.Deed___eq__.ok sc_Deed___eq__ (fun vs H Q E h => ?_) (fun cdv A outer s H vs Q E hr h => ?_)
  · obtain ⟨p, x, t, b, y, rfl, _⟩ := h
    rfl
  · obtain ⟨p, x, t, b, y, rfl, ⟨dx, q, h1, h2⟩, h⟩ := h
    refine ⟨_, (pss_cons (ps_if (pt_not (pt_val (cb_isi T.bi (pa_cons (pv 1) (pa_cons (pe_gr T.g_Deed) pa_nil))))) (pss_one (ps_ret pe_bl)) pss_nil)
      (pss_one (ps_ret (pe_and (pe_cmpR (op_eqX hr) (pe_fld (pv 0) rfl) (pe_fld (pv 1) rfl) (nomark _)) (pe_and (pe_cmpR (op_eqX hr) (pe_fld (pv 0) rfl) (pe_fld (pv 1) rfl) (nomark _)) (pe_one (pe_cmpR (op_eqOwn F1 T.nf_Term T.m_Term___eq__.at_ T.m_Term___eq__.fn T.b_Term___eq__ pass0 (hr.mono (by decide))) (pe_fld (pv 0) rfl) (pe_fld (pv 1) rfl) (nomark _)))))))), ?_⟩
    rcases h with ⟨r, x', t', b', rfl, ⟨dy, q', g1, g2⟩, k⟩ | ⟨z, rfl, k⟩
    · refine ⟨_, rfl, isiOwn (tyDeed T g1) T.kit_Deed ?_⟩
      refine ⟨_, rfl, ?_⟩
      refine ⟨_, rfl, p, _, dx, _, _, rfl, h1, T.c_Deed, T.no_Deed_target, rfl, ?_⟩
      refine ⟨_, rfl, r, _, dy, _, _, rfl, g1, T.c_Deed, T.no_Deed_target, rfl, ?_⟩
      refine eqS ?_
      refine ⟨_, rfl, ?_⟩
      cases hx : decide (x = x') with
      | false => rw [hx] at k; exact k
      | true =>
        rw [hx] at k
        refine ⟨_, rfl, p, _, dx, _, _, rfl, h1, T.c_Deed, T.no_Deed_is_late, rfl, ?_⟩
        refine ⟨_, rfl, r, _, dy, _, _, rfl, g1, T.c_Deed, T.no_Deed_is_late, rfl, ?_⟩
        refine eqB ?_
        refine ⟨_, rfl, ?_⟩
        cases hb : decide (b = b') with
        | false => rw [hb] at k; exact k
        | true =>
          rw [hb] at k
          refine ⟨_, rfl, p, _, dx, _, _, rfl, h1, T.c_Deed, T.no_Deed_source, rfl, ?_⟩
          refine ⟨_, rfl, r, _, dy, _, _, rfl, g1, T.c_Deed, T.no_Deed_source, rfl, ?_⟩
          have i1 := h2
          have i2 := g2
          obtain ⟨e1, u1, z1, _⟩ := i1
          obtain ⟨e2, u2, z2, _⟩ := i2
          exact ⟨q, _, _, rfl, z1, .inl ⟨q', _, _, rfl, z2⟩, q, q', t, t', rfl, h2, g2, _, rfl, k⟩
    · refine ⟨_, rfl, isiOwn (.base (.str z)) T.kit_Deed_str ?_⟩
      exact ⟨_, rfl, k⟩
end
end Z
set_option maxRecDepth 100000
set_option maxHeartbeats 4000000
set_option pp.maxSteps 600
namespace Z
open PySem PySem.Spec PyProof.Rows L2
def iLT (K : PySem.W.Frag) (i : Nat) : TI := fun σ H R => iList K (tVar i) σ H R ∨ iTup K (tVar i) σ H R
theorem pi_LT {X : Cx} {K : PySem.W.Frag} {tg e : Expr} {i : Nat} (h : PE X e (tVar i)) (hk : X.K = K := by rfl) : PI X tg e (iLT K i) := by
  subst hk
  have h1 : PI X tg e (iList X.K (tVar i)) := pi_list h
  have h2 : PI X tg e (iTup X.K (tVar i)) := pi_tup h
  exact ⟨fun pins s σ H R I q => q.elim (h1.run pins s σ H R I) (h2.run pins s σ H R I)⟩
theorem isiLT {K : PySem.W.Frag} {x : V} {tp : Addr} {ty : String} {b1 b2 : Bool} {H : Hp} {Q : VK} (h : TyX K H x (.type ty)) (h1 : kitB ty "list" = some b1) (h2 : kitB ty "tuple" = some b2) (ht : H tp = some (.tup [.ty "list", .ty "tuple"])) (q : Q (.bl (b1 || b2)) H) : rIsi K [x, .ref tp] H Q ∨ rIsiT K [x, .ref tp] H Q := by
  refine .inr ⟨x, tp, [.ty "list", .ty "tuple"], .type ty, [.type "list", .type "tuple"], b1 || b2, rfl, ht, .cons (.ty _) (.cons (.ty _) .nil), h, ?_, q⟩
  unfold PySem.W.kitAny
  rw [kit_ty h1]
  cases b1 with
  | true => rfl
  | false =>
    show PySem.W.kitAny K (.type ty) [.type "tuple"] = some (false || b2)
    unfold PySem.W.kitAny
    rw [kit_ty h2]
    cases b2 <;> rfl
theorem k_ll : kitB "list" "list" = some true := by decide +kernel
theorem k_lt : kitB "list" "tuple" = some false := by decide +kernel
theorem k_tl : kitB "tuple" "list" = some false := by decide +kernel
def Seq (K : PySem.W.Frag) (H : Hp) (p : Addr) (xs : List V) : Prop := H p = some (.lst xs) ∨ SqT K H p xs
theorem Seq.same {K : PySem.W.Frag} {H H' : Hp} {p : Addr} {xs : List V} (s : Same H H') (h : Seq K H p xs) : Seq K H' p xs := h.imp (s _ _) (SqT.same s)
theorem Seq.lt {K : PySem.W.Frag} {H : Hp} {p : Addr} {xs : List V} (h : Seq K H p xs) : SqL K H p xs ∨ SqT K H p xs := h.imp (fun h => .inl (.inl h)) id
theorem Seq.ty {K : PySem.W.Frag} {H : Hp} {p : Addr} {xs : List V} (h : Seq K H p xs) : ∃ ty b1 b2, TyX K H (.ref p) (.type ty) ∧ kitB ty "list" = some b1 ∧ kitB ty "tuple" = some b2 ∧ (b1 || b2) = true := by
  rcases h with h | h
  · exact ⟨"list", true, false, .base (.lst h), k_ll, k_lt, rfl⟩
  · exact ⟨"tuple", false, true, tyT h, k_tl, k_tt, rfl⟩
theorem lenLT {K : PySem.W.Frag} {p : Addr} {ys : List V} {H : Hp} {Q : VK} (h : SqL K H p ys ∨ SqT K H p ys) (q : Q (.int ys.length) H) : rLenA K [.ref p] H Q := h.elim (fun h => lenL h q) fun h => lenT h q
theorem mors_nodup_len {κ : Type} [DecidableEq κ] {ks : List κ} : (mors [] ks).length = ks.length ↔ ks.Nodup := by
  have nd : (mors [] ks).Nodup := nodup_mors List.nodup_nil
  have mem : ∀ y, y ∈ mors [] ks ↔ y ∈ ks := fun y => by rw [mem_mors]; simp
  constructor
  · intro h
    exact cover nd (fun y hy => (mem y).mp hy) (Nat.le_of_eq h.symm)
  · intro h
    have h1 := le_cover h (m := mors [] ks) fun y hy => (mem y).mpr hy
    have h2 := le_cover nd (m := ks) fun y hy => (mem y).mp hy
    omega
def wordV : V → Bool
  | .str z => wordB (ls z)
  | _ => false
theorem words_map : ∀ {xs : List V}, xs.all wordV = true → xs = (xs.filterMap strV).map V.str
  | [], _ => rfl
  | v :: xs, h => by
    rw [List.all_cons, Bool.and_eq_true] at h
    have ih := words_map h.2
    cases v <;> first
      | (cases h.1; done)
      | (show _ :: xs = _ :: (xs.filterMap strV).map V.str; rw [← ih])
def unlikeB (lo hi : Int) (xs : List V) : Bool := decide (lo ≤ (xs.length : Int)) && (decide ((xs.length : Int) ≤ hi) && (xs.all wordV && decide ((xs.filterMap strV).Nodup)))
inductive UW (K : PySem.W.Frag) (H : Hp) (lo hi : Int) : V → Bool → Prop
  | seq {p : Addr} {xs : List V} (h : Seq K H p xs) (ws : ∀ y ∈ xs, WQ K H y (wordV y)) (few : xs.length ≤ 100) : UW K H lo hi (.ref p) (unlikeB lo hi xs)
  | oth {x : V} {ty : String} (h : TyX K H x (.type ty)) (k1 : kitB ty "list" = some false) (k2 : kitB ty "tuple" = some false) : UW K H lo hi x false
theorem UW.same {K : PySem.W.Frag} {H H' : Hp} {lo hi : Int} {x : V} {b : Bool} (s : Same H H') (h : UW K H lo hi x b) : UW K H' lo hi x b := by
  cases h with
  | seq h ws few => exact .seq (h.same s) (fun y hy => (ws y hy).same s) few
  | oth h k1 k2 => exact .oth (tyX_same s h) k1 k2
section
variable {P : Program} {w : World} {K : PySem.W.Frag} {mg : Str → Option Value} {base : Heap} {a : Ad}
def spUnlike (K : PySem.W.Frag) : Sp := fun vs H Q _ => ∃ (x : V) (lo hi : Int) (b : Bool), vs = [x, .int lo, .int hi] ∧ UW K H lo hi x b ∧ ∀ H', Same H H' → Q (.bl b) H'
theorem ok_unlike (T : Tx P K mg a) : FnOk P w K mg base CX0 2 a.f_are_unlike_words a.d_are_unlike_words ["value", "low", "high"] (spUnlike K) := by
  have F1 : FnOk P w K mg base CX0 1 a.f_is_word a.d_is_word ["value"] (spWordX K) := ok_wordX T
  refine T.are_unlike_words.fn.ok sc_are_unlike_words (fun vs H Q E h => ?_) (fun cdv A outer s H vs Q E hr h => ?_)
  · obtain ⟨x, lo, hi, b, rfl, _⟩ := h
    rfl
  · obtain ⟨x, lo, hi, b, rfl, hx, q⟩ := h
    have nd := sc_are_unlike_words.nd
    refine ⟨_, (pss_cons (ps_if (PW.pt (pw_or (pt_not (pt_val (cb_isi T.bi (pa_cons (pv 0) (pa_cons (pe_tup (pa_cons (gl_ty rfl T.bi.list PyProof.Rows.boot_list) (pa_cons (gl_ty rfl T.bi.tuple PyProof.Rows.boot_tuple) pa_nil))) pa_nil))))) (pw_or1 (pt_not (pt_chain op_le op_le (pv 1) (cb_len T.bi (pa_cons (pv 0) pa_nil)) (pv 2)))))) (pss_one (ps_ret pe_bl)) pss_nil)
      (pss_cons (ps_if (pt_cmpR (op_neX hr) (pe_lc (own := [("word", 3)]) (by rfl) nd (pi_LT (K := K) (pv 0)) (blkOk_by (own := [("word", 3)]) (N := ["value", "low", "high", "word"]) (sc := defScope s_are_unlike_words) (by decide +kernel)) (fun _ _ _ _ _ => (pg_name (i := 3) nd rfl (Or.inl rfl))) (fun _ _ _ _ _ => pts_one (pt_not (pt_val (pe_cf T.is_word F1 hr (pa_cons (pv 3) pa_nil))))) (fun _ _ _ _ _ => (pv 3))) (pe_lst pa_nil) (nomark _)) (pss_one (ps_ret pe_bl)) pss_nil)
      (pss_one (ps_ret (pe_cmpR (op_eqX hr) (pe_callB (call_lenH (strSK P w)) rfl T.bi.len PySem.boot_len (pa_cons (pe_callTy (call_setOf (strSK P w) (K := K) rfl) rfl T.bi.set PyProof.Rows.boot_set (pa_cons (pv 0) pa_nil)) pa_nil)) (cb_len T.bi (pa_cons (pv 0) pa_nil)) (nomark _)))))), ?_⟩
    refine ⟨_, rfl, by show 2 ≤ sizeLine; decide, fun tp ntp => ?_⟩
    have s0 := sNew (o := .tup [V.ty "list", .ty "tuple"]) ntp
    have hx0 := hx.same s0
    have htp : upd H tp (.tup [V.ty "list", .ty "tuple"]) tp = some (.tup [V.ty "list", .ty "tuple"]) := upd_same
    generalize upd H tp (.tup [V.ty "list", .ty "tuple"]) = H0 at s0 hx0 htp
    cases hx0 with
    | oth h k1 k2 =>
      refine isiLT h k1 k2 htp ?_
      refine ⟨_, rfl, ?_⟩
      exact q _ s0
    | @seq p xs hq ws few =>
      obtain ⟨ty, b1, b2, hty, k1, k2, hb⟩ := hq.ty
      refine isiLT hty k1 k2 htp ?_
      rw [hb]
      refine ⟨_, rfl, ?_⟩
      refine ⟨_, rfl, _, rfl, lenLT hq.lt ?_⟩
      refine ⟨lo, _, rfl, rfl, _, rfl, ?_⟩
      unfold unlikeB at q
      by_cases h1 : lo ≤ (xs.length : Int)
      · rw [decide_eq_true h1] at q ⊢
        refine ⟨_, rfl, _, hi, rfl, rfl, ?_⟩
        refine ⟨_, rfl, ?_⟩
        by_cases h2 : (xs.length : Int) ≤ hi
        · rw [decide_eq_true h2] at q ⊢
          have last : ∀ {H1 : Hp}, Same H0 H1 → (fun b H3 => if b = true then tRet (tC (.bl false)) { nx := fun σ' H' => tRet (tOp (rEqX K) (tCB (rLenH (strSK P w)) (tCons (tCB (rSetOf (strSK P w) K) (tCons (tVar 0) tNil)) tNil)) (tCB (rLenA K) (tCons (tVar 0) tNil))) { nx := fun _ H' => Q .non H', rt := Q } σ' H', rt := Q } [some (.ref p), some (.int lo), some (.int hi), none] H3 else
              tNext { nx := fun σ' H' => tRet (tOp (rEqX K) (tCB (rLenH (strSK P w)) (tCons (tCB (rSetOf (strSK P w) K) (tCons (tVar 0) tNil)) tNil)) (tCB (rLenA K) (tCons (tVar 0) tNil))) { nx := fun _ H' => Q .non H', rt := Q } σ' H', rt := Q } [some (.ref p), some (.int lo), some (.int hi), none] H3) (!xs.all wordV) H1 := by
            intro H1 sm
            cases ha : xs.all wordV with
            | false =>
              rw [ha] at q
              exact q _ (s0.trans sm)
            | true =>
              rw [ha] at q
              have em := words_map ha
              have hq1 := hq.same sm
              refine ⟨_, rfl, ⟨p, xs.filterMap strV, rfl, ?_, by have := List.length_filterMap_le strV xs; unfold scanBound; omega, fun pp np => ?_⟩⟩
              · have := hq1.lt
                rw [em] at this
                exact this
              · refine ⟨pp, _, rfl, upd_same, ?_⟩
                refine ⟨_, rfl, lenLT (hq1.same (sNew np)).lt ?_⟩
                refine eqI ?_
                have el : xs.length = (xs.filterMap strV).length := by
                  have := congrArg List.length em
                  rw [List.length_map] at this
                  exact this
                have eb : decide (((mors [] (xs.filterMap strV)).length : Int) = ((xs.length : Nat) : Int)) = decide ((xs.filterMap strV).Nodup) := by
                  refine decide_eq_decide.mpr ?_
                  rw [← mors_nodup_len, el]
                  omega
                rw [eb]
                exact q _ ((s0.trans sm).trans (sNew np))
          have hq0 := hq
          rcases hq0 with hl | hl
          · refine .inl ⟨_, rfl, p, rfl, ⟨_, .inl (.inl hl)⟩, fun D nD => ?_⟩
            refine lc_it (walk_list (xs := xs)) (fun i H' => ∃ acc : List V, H' D = some (.lst acc) ∧ Same H0 H' ∧ acc.length ≤ i ∧ acc.isEmpty = (xs.take i).all wordV) ⟨[], upd_same, sNew nD, Nat.le_refl _, rfl⟩ (fun _ _ _ ⟨_, _, sm, _⟩ => .inl (.inl (sm _ _ hl))) ?_ ?_
            · rintro i x H1 H1' hi ⟨acc, hA, sm, ln, em⟩ ⟨rfl, hx⟩
              have hi' : i < xs.length := hi
              have tk : (xs.take (i + 1)).all wordV = ((xs.take i).all wordV && wordV x) := by rw [List.take_succ, hx, List.all_append]; simp
              refine ⟨rfl, _, rfl, x, wordV x, rfl, (ws x (List.mem_of_getElem? hx)).same sm, fun H2 s2 => ⟨_, rfl, ?_⟩⟩
              cases hw : wordV x with
              | true => exact ⟨acc, s2 _ _ hA, sm.trans s2, Nat.le_succ_of_le ln, by rw [tk, em, hw, Bool.and_true]⟩
              | false => exact ⟨_, rfl, acc, s2 _ _ hA, by have := sl1k; omega, acc ++ [x], upd_same, sUpd nD (sm.trans s2), by rw [List.length_append]; exact Nat.succ_le_succ ln, by rw [tk, hw, Bool.and_false]; simp⟩
            · rintro H1 ⟨acc, hA, sm, ln, em⟩
              rw [List.take_length] at em
              refine ⟨Nat.zero_le _, fun pe npe => ?_⟩
              refine neL0 (.inl (.inl (sNew npe _ _ hA))) upd_same ?_
              rw [em]
              exact ⟨_, rfl, last (sm.trans (sNew npe))⟩
          · refine .inr ⟨_, rfl, p, rfl, ⟨_, hl⟩, fun D nD => ?_⟩
            refine lc_it (walk_tup (xs := xs)) (fun i H' => ∃ acc : List V, H' D = some (.lst acc) ∧ Same H0 H' ∧ acc.length ≤ i ∧ acc.isEmpty = (xs.take i).all wordV) ⟨[], upd_same, sNew nD, Nat.le_refl _, rfl⟩ (fun _ _ _ ⟨_, _, sm, _⟩ => SqT.same sm hl) ?_ ?_
            · rintro i x H1 H1' hi ⟨acc, hA, sm, ln, em⟩ ⟨rfl, hx⟩
              have hi' : i < xs.length := hi
              have tk : (xs.take (i + 1)).all wordV = ((xs.take i).all wordV && wordV x) := by rw [List.take_succ, hx, List.all_append]; simp
              refine ⟨rfl, _, rfl, x, wordV x, rfl, (ws x (List.mem_of_getElem? hx)).same sm, fun H2 s2 => ⟨_, rfl, ?_⟩⟩
              cases hw : wordV x with
              | true => exact ⟨acc, s2 _ _ hA, sm.trans s2, Nat.le_succ_of_le ln, by rw [tk, em, hw, Bool.and_true]⟩
              | false => exact ⟨_, rfl, acc, s2 _ _ hA, by have := sl1k; omega, acc ++ [x], upd_same, sUpd nD (sm.trans s2), by rw [List.length_append]; exact Nat.succ_le_succ ln, by rw [tk, hw, Bool.and_false]; simp⟩
            · rintro H1 ⟨acc, hA, sm, ln, em⟩
              rw [List.take_length] at em
              refine ⟨Nat.zero_le _, fun pe npe => ?_⟩
              refine neL0 (.inl (.inl (sNew npe _ _ hA))) upd_same ?_
              rw [em]
              exact ⟨_, rfl, last (sm.trans (sNew npe))⟩
        · rw [decide_eq_false h2] at q ⊢
          exact q _ s0
      · rw [decide_eq_false h1] at q ⊢
        exact ⟨_, rfl, q _ s0⟩
end
end Z
set_option maxRecDepth 100000
set_option maxHeartbeats 4000000
set_option pp.maxSteps 600
namespace Z
open PySem PySem.Spec PyProof.Rows L2
theorem _root_.L2.Same.non {H H' : Hp} {D : Addr} (s : Same H H') (n : H' D = none) : H D = none := by
  cases e : H D with
  | none => rfl
  | some o =>
    have := s D o e
    rw [n] at this
    cases this
abbrev DD := Str × Tr × Bool
def DeedsAt (K : PySem.W.Frag) (CD CT : Addr) (H : Hp) (qs : List Addr) (ds : List DD) : Prop := qs.length = ds.length ∧ ∀ (j : Nat) (q : Addr) (d : DD), qs[j]? = some q → ds[j]? = some d → DeedAt K CD CT H q d.1 d.2.1 d.2.2
theorem DeedsAt.same {K : PySem.W.Frag} {CD CT : Addr} {H H' : Hp} {qs : List Addr} {ds : List DD} (s : Same H H') (h : DeedsAt K CD CT H qs ds) : DeedsAt K CD CT H' qs ds := ⟨h.1, fun j q d h1 h2 => (h.2 j q d h1 h2).same s⟩
theorem DeedsAt.nil {K : PySem.W.Frag} {CD CT : Addr} {H : Hp} : DeedsAt K CD CT H [] [] := ⟨rfl, fun j q d h _ => by simp at h⟩
theorem DeedsAt.snoc {K : PySem.W.Frag} {CD CT : Addr} {H : Hp} {qs : List Addr} {ds : List DD} {q : Addr} {d : DD} (h : DeedsAt K CD CT H qs ds) (k : DeedAt K CD CT H q d.1 d.2.1 d.2.2) : DeedsAt K CD CT H (qs ++ [q]) (ds ++ [d]) := by
  refine ⟨by rw [List.length_append, List.length_append, h.1]; rfl, fun j p f h1 h2 => ?_⟩
  by_cases hj : j < qs.length
  · rw [List.getElem?_append_left hj] at h1
    rw [List.getElem?_append_left (by rw [← h.1]; exact hj)] at h2
    exact h.2 j p f h1 h2
  · have : j = qs.length := by
      have := (List.getElem?_eq_some_iff.mp h1).1
      rw [List.length_append, List.length_singleton] at this
      omega
    subst this
    rw [List.getElem?_append_right (Nat.le_refl _), Nat.sub_self] at h1
    rw [List.getElem?_append_right (by rw [h.1]; exact Nat.le_refl _), h.1, Nat.sub_self] at h2
    cases h1
    cases h2
    exact k
theorem DeedsAt.kept {K : PySem.W.Frag} {CD CT : Addr} {H H' : Hp} {qs : List Addr} {ds : List DD} (k : ∀ c C dx fs, H c = some (.ins C dx fs) → C = CD ∨ C = CT → H' c = some (.ins C dx fs)) (tk : TK H H') (h : DeedsAt K CD CT H qs ds) : DeedsAt K CD CT H' qs ds :=
  ⟨h.1, fun j q d h1 h2 => by
    obtain ⟨dx, p, g1, d', u, g2, g3, g4⟩ := h.2 j q d h1 h2
    exact ⟨dx, p, k _ _ _ _ g1 (.inl rfl), d', u, k _ _ _ _ g2 (.inr rfl), tr_tk tk _ g3, g4⟩⟩
inductive IQ (K : PySem.W.Frag) (CD CT : Addr) (H : Hp) : V → Option DD → Prop
  | own {q : Addr} {s : Str} {t : Tr} {b : Bool} (h : DeedAt K CD CT H q s t b) : IQ K CD CT H (.ref q) (some (s, t, b))
  | txt (z : Str) (h : z.length + 2 ≤ sizeLine) : IQ K CD CT H (.str z) (dparts z)
  | oth {x : V} {ty : String} (h : TyX K H x (.type ty)) (k1 : kitB ty "str" = some false) (k2 : PySem.W.kitOne K (.type ty) (.ref CD) = some false) : IQ K CD CT H x none
theorem IQ.same {K : PySem.W.Frag} {CD CT : Addr} {H H' : Hp} {x : V} {o : Option DD} (s : Same H H') (h : IQ K CD CT H x o) : IQ K CD CT H' x o := by
  cases h with
  | own h => exact .own (h.same s)
  | txt z h => exact .txt z h
  | oth h k1 k2 => exact .oth (tyX_same s h) k1 k2
def allS (os : Nat → Option DD) : Nat → Option (List DD)
  | 0 => some []
  | n + 1 => match allS os n, os n with
    | some l, some d => some (l ++ [d])
    | _, _ => none
theorem allS_none {os : Nat → Option DD} {n : Nat} (h : allS os n = none) : ∀ m, allS os (n + m) = none
  | 0 => h
  | m + 1 => by
    show (match allS os (n + m), os (n + m) with | some l, some d => some (l ++ [d]) | _, _ => none) = none
    rw [allS_none h m]
theorem allS_len {os : Nat → Option DD} : ∀ {n : Nat} {l : List DD}, allS os n = some l → l.length = n
  | 0, l, h => by cases h; rfl
  | n + 1, l, h => by
    unfold allS at h
    split at h
    · rename_i m d e1 e2
      cases h
      rw [List.length_append, allS_len e1]
      rfl
    · cases h
inductive DQ (K : PySem.W.Frag) (CD CT : Addr) (H : Hp) : V → Option (List DD) → Prop
  | seq {p : Addr} {xs : List V} (h : Seq K H p xs) (os : Nat → Option DD) (it : ∀ (i : Nat) (x : V), xs[i]? = some x → IQ K CD CT H x (os i)) : DQ K CD CT H (.ref p) (if 1 ≤ xs.length ∧ xs.length ≤ 4 then allS os xs.length else none)
  | oth {x : V} {ty : String} (h : TyX K H x (.type ty)) (k1 : kitB ty "list" = some false) (k2 : kitB ty "tuple" = some false) : DQ K CD CT H x none
theorem DQ.same {K : PySem.W.Frag} {CD CT : Addr} {H H' : Hp} {x : V} {r : Option (List DD)} (s : Same H H') (h : DQ K CD CT H x r) : DQ K CD CT H' x r := by
  cases h with
  | seq h os it => exact .seq (h.same s) os fun i x hx => (it i x hx).same s
  | oth h k1 k2 => exact .oth (tyX_same s h) k1 k2
section
variable {P : Program} {w : World} {K : PySem.W.Frag} {mg : Str → Option Value} {base : Heap} {a : Ad}
def spDeedsOf (K : PySem.W.Frag) (CD CT : Addr) : Sp := fun vs H Q _ => ∃ (x : V) (r : Option (List DD)), vs = [x] ∧ DQ K CD CT H x r ∧ (r = none → ∀ H', Same H H' → Q .non H') ∧
  ∀ ds, r = some ds → ∀ L qs H', H L = none → Same H H' → H' L = some (.lst (qs.map V.ref)) → DeedsAt K CD CT H' qs ds → 1 ≤ ds.length → ds.length ≤ 4 → Q (.ref L) H'
theorem ok_deeds_of (T : Tx P K mg a) : FnOk P w K mg base CX0 12 a.f_deeds_of a.d_deeds_of ["values"] (spDeedsOf K a.C_Deed a.C_Term) := by
  have F1 : FnOk P w K mg base CX0 7 a.f_deed_parts a.d_deed_parts ["text"] (spDParts K) := ok_dparts T
  have F2 : FnOk P w K mg base (L2.CX P w) 11 a.f_Deed_of a.d_Deed_of ["text"] (spDOf K a.C_Deed a.C_Term a.C_NoDeed) := ok_dof T
  refine T.deeds_of.fn.ok sc_deeds_of (fun vs H Q E h => ?_) (fun cdv A outer s H vs Q E hr h => ?_)
  · obtain ⟨x, r, rfl, _⟩ := h
    rfl
  · obtain ⟨x, r, rfl, hx, q0, q1⟩ := h
    have nd := sc_deeds_of.nd
    refine ⟨_, (pss_cons (ps_if (PW.pt (pw_or (pt_not (pt_val (cb_isi T.bi (pa_cons (pv 0) (pa_cons (pe_tup (pa_cons (gl_ty rfl T.bi.list PyProof.Rows.boot_list) (pa_cons (gl_ty rfl T.bi.tuple PyProof.Rows.boot_tuple) pa_nil))) pa_nil))))) (pw_or1 (pt_not (pt_chain op_le op_le pe_int (cb_len T.bi (pa_cons (pv 0) pa_nil)) (pe_gi T.v_MOST_DEEDS)))))) (pss_one (ps_ret pe_non)) pss_nil)
      (pss_cons (ps_set (i := 1) nd rfl (Or.inl rfl) (pe_lst pa_nil))
      (pss_cons (ps_for PassesOwn.never rfl (pi_LT (K := K) (pv 0)) (pg_name (i := 2) nd rfl (Or.inl rfl))
        (pss_cons (ps_if (PW.pt (pw_and (pt_not (pt_val (cb_isi T.bi (pa_cons (pv 2) (pa_cons (pe_gr T.g_Deed) pa_nil))))) (pw_and1 (pt_cmp (pc_isN (pe_cf T.deed_parts F1 (hr.mono (by decide)) (pa_cons (pv 2) pa_nil))))))) (pss_one (ps_ret pe_non)) pss_nil)
        (pss_one (ps_expr (pe_bm PySem.F.plainAttrs_list PySem.F.slot_list_append PySem.F.type_list_append mt_append (pv 1) (pa_cons (pe_ifExp (pt_val (cb_isi T.bi (pa_cons (pv 2) (pa_cons (pe_gr T.g_Deed) pa_nil)))) (pv 2) (pe_sta (pe_gr T.g_Deed) T.m_Deed_of F2 hr T.b_Deed_of passL (pa_cons (pv 2) pa_nil))) pa_nil))))))
      (pss_one (ps_ret (pv 1)))))), ?_⟩
    refine ⟨_, rfl, by show 2 ≤ sizeLine; decide, fun tp ntp => ?_⟩
    have s0 := sNew (o := .tup [V.ty "list", .ty "tuple"]) ntp
    have hx0 := hx.same s0
    have htp : upd H tp (.tup [V.ty "list", .ty "tuple"]) tp = some (.tup [V.ty "list", .ty "tuple"]) := upd_same
    generalize upd H tp (.tup [V.ty "list", .ty "tuple"]) = H0 at s0 hx0 htp
    cases hx0 with
    | oth h k1 k2 =>
      refine isiLT h k1 k2 htp ?_
      refine ⟨_, rfl, ?_⟩
      exact q0 rfl _ s0
    | @seq p xs hq os it =>
      obtain ⟨ty, b1, b2, hty, k1, k2, hb⟩ := hq.ty
      refine isiLT hty k1 k2 htp ?_
      rw [hb]
      refine ⟨_, rfl, ?_⟩
      refine ⟨_, rfl, lenLT hq.lt ?_⟩
      refine ⟨1, _, rfl, rfl, _, rfl, ?_⟩
      by_cases h1 : (1 : Int) ≤ (xs.length : Int)
      · rw [decide_eq_true h1]
        refine ⟨_, 4, rfl, rfl, ?_⟩
        refine ⟨_, rfl, ?_⟩
        by_cases h2 : (xs.length : Int) ≤ 4
        · rw [decide_eq_true h2]
          rw [if_pos (by omega)] at q0 q1
          refine ⟨Nat.zero_le _, fun D nD => ?_⟩
          have sD := sNew (o := .lst []) nD
          have hqD := hq.same sD
          have hq0 := hq
          rcases hq0 with hl | hl
          · refine .inl ⟨_, rfl, p, rfl, ⟨_, .inl (.inl (sD _ _ hl))⟩, ?_⟩
            refine for_it (walk_list (xs := xs)) (fun n σ H' => ∃ (qs : List Addr) (l : List DD) (o2 : Option V), σ = [some (.ref p), some (.ref D), o2] ∧ allS os n = some l ∧ H' D = some (.lst (qs.map V.ref)) ∧ DeedsAt K a.C_Deed a.C_Term H' qs l ∧ Same H0 H') ⟨[], [], none, rfl, rfl, upd_same, .nil, sD⟩ (fun _ _ _ _ ⟨_, _, _, _, _, _, _, sm⟩ => .inl (.inl (sm _ _ hl))) ?_ ?_
            · rintro n x σ H1 H1' hn ⟨qs, l, o2, rfl, ha, hA, dd, sm⟩ ⟨rfl, hx⟩
              have hn' : n < xs.length := hn
              have lq : qs.length = n := by rw [dd.1]; exact allS_len ha
              have sl := sl1k
              have small : (qs.map V.ref).length < sizeLine := by rw [List.length_map]; omega
              have bad : os n = none → ∀ {H2 : Hp}, Same H1' H2 → Q .non H2 := fun e H2 s2 => by
                refine q0 ?_ H2 ((s0.trans sm).trans s2)
                have e1 : allS os (n + 1) = none := by
                  show (match allS os n, os n with | some l, some d => some (l ++ [d]) | _, _ => none) = none
                  rw [ha, e]
                have := allS_none e1 (xs.length - (n + 1))
                rwa [show n + 1 + (xs.length - (n + 1)) = xs.length by omega] at this
              have good : ∀ {d : DD} {q : Addr} {H2 : Hp}, os n = some d → Same H1' H2 → DeedAt K a.C_Deed a.C_Term H2 q d.1 d.2.1 d.2.2 → ∃ (qs' : List Addr) (l' : List DD) (o2' : Option V), [some (V.ref p), some (V.ref D), some x] = [some (V.ref p), some (V.ref D), o2'] ∧ allS os (n + 1) = some l' ∧
                  (upd H2 D (.lst (qs.map V.ref ++ [V.ref q]))) D = some (.lst (qs'.map V.ref)) ∧ DeedsAt K a.C_Deed a.C_Term (upd H2 D (.lst (qs.map V.ref ++ [V.ref q]))) qs' l' ∧ Same H0 (upd H2 D (.lst (qs.map V.ref ++ [V.ref q]))) := fun {d q H2} e s2 hd => by
                have hA2 := s2 _ _ hA
                refine ⟨qs ++ [q], l ++ [d], _, rfl, ?_, by rw [upd_same, List.map_append]; rfl, ?_, sUpd nD (sm.trans s2)⟩
                · show (match allS os n, os n with | some l, some d => some (l ++ [d]) | _, _ => none) = _
                  rw [ha, e]
                · refine DeedsAt.kept (fun c C dx fs h _ => by rw [upd_ne (ne_of h hA2 (by intro z; cases z))]; exact h) (TK.lst hA2) ?_
                  exact (dd.same s2).snoc hd
              have itn := (it n x hx).same sm
              generalize ho : os n = o at itn
              cases itn with
              | @own q s0' t0 b0 hq' =>
                have j := hq'
                obtain ⟨dx, q', g1, _⟩ := j
                refine ⟨_, rfl, isiOwn (tyDeed T g1) T.kit_Deed ?_⟩
                refine ⟨_, rfl, ?_⟩
                refine ⟨_, rfl, .inl ⟨rfl, _, .inl (.inl hA)⟩, ?_⟩
                refine ⟨_, rfl, isiOwn (tyDeed T g1) T.kit_Deed ?_⟩
                refine ⟨_, rfl, ?_⟩
                exact ⟨_, rfl, D, _, _, rfl, rfl, hA, small, good ho (Same.refl _) hq'⟩
              | txt z hz =>
                refine ⟨_, rfl, isiOwn (.base (.str z)) T.kit_Deed_str ?_⟩
                refine ⟨_, rfl, ?_⟩
                refine ⟨_, rfl, .str z, rfl, .inl ⟨z, rfl, hz, fun e H2 s2 => ?_, fun y t b e pp H2 s2 hp => ?_⟩⟩
                · refine ⟨_, rfl, ?_⟩
                  exact bad (ho.trans e) s2
                · refine ⟨_, rfl, ?_⟩
                  refine ⟨_, rfl, .inl ⟨rfl, _, .inl (.inl (s2 _ _ hA))⟩, ?_⟩
                  refine ⟨_, rfl, isiOwn (.base (.str z)) T.kit_Deed_str ?_⟩
                  refine ⟨_, rfl, ?_⟩
                  refine ⟨rfl, _, rfl, _, rfl, .inl ⟨z, rfl, hz, fun e' => ?_, fun y' t' b' e' q5 H3 s3 dq => ?_⟩⟩
                  · rw [e] at e'
                    cases e'
                  · rw [e] at e'
                    cases e'
                    exact ⟨D, _, _, rfl, rfl, s3 _ _ (s2 _ _ hA), small, good (ho.trans e) (s2.trans s3) dq⟩
              | oth h k1 k2 =>
                refine ⟨_, rfl, isiOwn h k2 ?_⟩
                refine ⟨_, rfl, ?_⟩
                refine ⟨_, rfl, x, rfl, .inr ⟨_, h, k1, ?_⟩⟩
                refine ⟨_, rfl, ?_⟩
                exact bad ho (Same.refl _)
            · rintro σ H1 ⟨qs, l, o2, rfl, ha, hA, dd, sm⟩
              have ll := allS_len ha
              exact ⟨_, rfl, q1 l ha D qs _ (s0.non nD) (s0.trans sm) hA dd (by omega) (by omega)⟩
          · refine .inr ⟨_, rfl, p, rfl, ⟨_, SqT.same sD hl⟩, ?_⟩
            refine for_it (walk_tup (xs := xs)) (fun n σ H' => ∃ (qs : List Addr) (l : List DD) (o2 : Option V), σ = [some (.ref p), some (.ref D), o2] ∧ allS os n = some l ∧ H' D = some (.lst (qs.map V.ref)) ∧ DeedsAt K a.C_Deed a.C_Term H' qs l ∧ Same H0 H') ⟨[], [], none, rfl, rfl, upd_same, .nil, sD⟩ (fun _ _ _ _ ⟨_, _, _, _, _, _, _, sm⟩ => SqT.same sm hl) ?_ ?_
            · rintro n x σ H1 H1' hn ⟨qs, l, o2, rfl, ha, hA, dd, sm⟩ ⟨rfl, hx⟩
              have hn' : n < xs.length := hn
              have lq : qs.length = n := by rw [dd.1]; exact allS_len ha
              have sl := sl1k
              have small : (qs.map V.ref).length < sizeLine := by rw [List.length_map]; omega
              have bad : os n = none → ∀ {H2 : Hp}, Same H1' H2 → Q .non H2 := fun e H2 s2 => by
                refine q0 ?_ H2 ((s0.trans sm).trans s2)
                have e1 : allS os (n + 1) = none := by
                  show (match allS os n, os n with | some l, some d => some (l ++ [d]) | _, _ => none) = none
                  rw [ha, e]
                have := allS_none e1 (xs.length - (n + 1))
                rwa [show n + 1 + (xs.length - (n + 1)) = xs.length by omega] at this
              have good : ∀ {d : DD} {q : Addr} {H2 : Hp}, os n = some d → Same H1' H2 → DeedAt K a.C_Deed a.C_Term H2 q d.1 d.2.1 d.2.2 → ∃ (qs' : List Addr) (l' : List DD) (o2' : Option V), [some (V.ref p), some (V.ref D), some x] = [some (V.ref p), some (V.ref D), o2'] ∧ allS os (n + 1) = some l' ∧
                  (upd H2 D (.lst (qs.map V.ref ++ [V.ref q]))) D = some (.lst (qs'.map V.ref)) ∧ DeedsAt K a.C_Deed a.C_Term (upd H2 D (.lst (qs.map V.ref ++ [V.ref q]))) qs' l' ∧ Same H0 (upd H2 D (.lst (qs.map V.ref ++ [V.ref q]))) := fun {d q H2} e s2 hd => by
                have hA2 := s2 _ _ hA
                refine ⟨qs ++ [q], l ++ [d], _, rfl, ?_, by rw [upd_same, List.map_append]; rfl, ?_, sUpd nD (sm.trans s2)⟩
                · show (match allS os n, os n with | some l, some d => some (l ++ [d]) | _, _ => none) = _
                  rw [ha, e]
                · refine DeedsAt.kept (fun c C dx fs h _ => by rw [upd_ne (ne_of h hA2 (by intro z; cases z))]; exact h) (TK.lst hA2) ?_
                  exact (dd.same s2).snoc hd
              have itn := (it n x hx).same sm
              generalize ho : os n = o at itn
              cases itn with
              | @own q s0' t0 b0 hq' =>
                have j := hq'
                obtain ⟨dx, q', g1, _⟩ := j
                refine ⟨_, rfl, isiOwn (tyDeed T g1) T.kit_Deed ?_⟩
                refine ⟨_, rfl, ?_⟩
                refine ⟨_, rfl, .inl ⟨rfl, _, .inl (.inl hA)⟩, ?_⟩
                refine ⟨_, rfl, isiOwn (tyDeed T g1) T.kit_Deed ?_⟩
                refine ⟨_, rfl, ?_⟩
                exact ⟨_, rfl, D, _, _, rfl, rfl, hA, small, good ho (Same.refl _) hq'⟩
              | txt z hz =>
                refine ⟨_, rfl, isiOwn (.base (.str z)) T.kit_Deed_str ?_⟩
                refine ⟨_, rfl, ?_⟩
                refine ⟨_, rfl, .str z, rfl, .inl ⟨z, rfl, hz, fun e H2 s2 => ?_, fun y t b e pp H2 s2 hp => ?_⟩⟩
                · refine ⟨_, rfl, ?_⟩
                  exact bad (ho.trans e) s2
                · refine ⟨_, rfl, ?_⟩
                  refine ⟨_, rfl, .inl ⟨rfl, _, .inl (.inl (s2 _ _ hA))⟩, ?_⟩
                  refine ⟨_, rfl, isiOwn (.base (.str z)) T.kit_Deed_str ?_⟩
                  refine ⟨_, rfl, ?_⟩
                  refine ⟨rfl, _, rfl, _, rfl, .inl ⟨z, rfl, hz, fun e' => ?_, fun y' t' b' e' q5 H3 s3 dq => ?_⟩⟩
                  · rw [e] at e'
                    cases e'
                  · rw [e] at e'
                    cases e'
                    exact ⟨D, _, _, rfl, rfl, s3 _ _ (s2 _ _ hA), small, good (ho.trans e) (s2.trans s3) dq⟩
              | oth h k1 k2 =>
                refine ⟨_, rfl, isiOwn h k2 ?_⟩
                refine ⟨_, rfl, ?_⟩
                refine ⟨_, rfl, x, rfl, .inr ⟨_, h, k1, ?_⟩⟩
                refine ⟨_, rfl, ?_⟩
                exact bad ho (Same.refl _)
            · rintro σ H1 ⟨qs, l, o2, rfl, ha, hA, dd, sm⟩
              have ll := allS_len ha
              exact ⟨_, rfl, q1 l ha D qs _ (s0.non nD) (s0.trans sm) hA dd (by omega) (by omega)⟩
        · rw [decide_eq_false h2]
          exact q0 (if_neg (by omega)) _ s0
      · rw [decide_eq_false h1]
        exact ⟨_, rfl, q0 (if_neg (by omega)) _ s0⟩
end
end Z
set_option maxRecDepth 100000
set_option maxHeartbeats 4000000
set_option pp.maxSteps 600
namespace Z
open PySem PySem.Spec PyProof.Rows L2
def FliesF (E : XK) (X : Addr) (f : Str) (H : Hp) (v : V) : Prop := ∀ d H1, Same H H1 → H1 d = none → E (.ref X) (some d) (upd H1 d (.xd [(f, v)]))
def pflds (s : Str) (pw pd : Addr) : List (Str × V) := [("title", .str s), ("waited", .ref pw), ("done", .ref pd)]
def ProcAt (K : PySem.W.Frag) (CP CD CT : Addr) (H : Hp) (p : Addr) (s : Str) (wl : List Str) (dl : List DD) : Prop := ∃ dx pw pd qs, H p = some (.ins CP dx (pflds s pw pd)) ∧ H pw = some (.lst (wl.map V.str)) ∧ H pd = some (.lst (qs.map V.ref)) ∧ DeedsAt K CD CT H qs dl
theorem Seq.ins {K : PySem.W.Frag} {H H' : Hp} {p q C : Addr} {dx : Addr} {fs : List (Str × V)} {xs : List V} (h : H p = some (.ins C dx fs)) (b : But p H H') (s : Seq K H q xs) : Seq K H' q xs := by
  rcases s with s | (s | ⟨o, s⟩) | s
  · exact .inl (b _ _ (ne_of s h (by intro z; cases z)) s)
  · exact .inr (.inl (.inl (b _ _ (ne_of s h (by intro z; cases z)) s)))
  · exact .inr (.inl (.inr ⟨o, b _ _ (ne_of s h (by intro z; cases z)) s⟩))
  · exact .inr (.inr s)
theorem tkBut {H H' : Hp} {p C : Addr} {dx : Addr} {fs : List (Str × V)} (h : H p = some (.ins C dx fs)) (b : But p H H') : TK H H' :=
  ⟨fun c ys e => b c _ (ne_of e h (by intro z; cases z)) e, fun c o u e => b c _ (ne_of e h (by intro z; cases z)) e⟩
theorem DeedsAt.but {K : PySem.W.Frag} {CD CT : Addr} {H H' : Hp} {p C : Addr} {dx : Addr} {qs : List Addr} {ds : List DD} (h : H p = some (.ins C dx [])) (b : But p H H') (dd : DeedsAt K CD CT H qs ds) : DeedsAt K CD CT H' qs ds :=
  ⟨dd.1, fun j q d h1 h2 => by
    obtain ⟨dx', p', g1, d', u, g2, g3, g4⟩ := dd.2 j q d h1 h2
    exact ⟨dx', p', b _ _ (ne_of g1 h (by intro z; cases z)) g1, d', u, b _ _ (ne_of g2 h (by intro z; cases z)) g2, tr_tk (tkBut h b) _ g3, g4⟩⟩
theorem ProcAt.same {K : PySem.W.Frag} {CP CD CT : Addr} {H H' : Hp} {p : Addr} {s : Str} {wl : List Str} {dl : List DD} (e : Same H H') (h : ProcAt K CP CD CT H p s wl dl) : ProcAt K CP CD CT H' p s wl dl := by
  obtain ⟨dx, pw, pd, qs, h1, h2, h3, h4⟩ := h
  exact ⟨dx, pw, pd, qs, e _ _ h1, e _ _ h2, e _ _ h3, h4.same e⟩
theorem turn_ls : ls ("turn" : Str) = [116, 117, 114, 110] := by decide +kernel
def ProcIn (G : Hp) (K : PySem.W.Frag) (CP CD CT : Addr) (H : Hp) (p : Addr) (s : Str) (wl : List Str) (dl : List DD) : Prop := ∃ dx pw pd qs, H p = some (.ins CP dx (pflds s pw pd)) ∧ H pw = some (.lst (wl.map V.str)) ∧ H pd = some (.lst (qs.map V.ref)) ∧ DeedsAt K CD CT H qs dl ∧ G pw = none ∧ G pd = none
theorem ProcIn.at {G : Hp} {K : PySem.W.Frag} {CP CD CT : Addr} {H : Hp} {p : Addr} {s : Str} {wl : List Str} {dl : List DD} (h : ProcIn G K CP CD CT H p s wl dl) : ProcAt K CP CD CT H p s wl dl := by
  obtain ⟨dx, pw, pd, qs, h1, h2, h3, h4, _⟩ := h
  exact ⟨dx, pw, pd, qs, h1, h2, h3, h4⟩
theorem ProcIn.same {G : Hp} {K : PySem.W.Frag} {CP CD CT : Addr} {H H' : Hp} {p : Addr} {s : Str} {wl : List Str} {dl : List DD} (e : Same H H') (h : ProcIn G K CP CD CT H p s wl dl) : ProcIn G K CP CD CT H' p s wl dl := by
  obtain ⟨dx, pw, pd, qs, h1, h2, h3, h4, h5⟩ := h
  exact ⟨dx, pw, pd, qs, e _ _ h1, e _ _ h2, e _ _ h3, h4.same e, h5⟩
theorem ProcIn.lst {G : Hp} {K : PySem.W.Frag} {CP CD CT : Addr} {H : Hp} {p l : Addr} {s : Str} {wl : List Str} {dl : List DD} {o : HO} {xs ys : List V} (g : G l = some o) (hl : H l = some (.lst xs)) (h : ProcIn G K CP CD CT H p s wl dl) : ProcIn G K CP CD CT (upd H l (.lst ys)) p s wl dl := by
  obtain ⟨dx, pw, pd, qs, h1, h2, h3, h4, h5, h6⟩ := h
  exact ⟨dx, pw, pd, qs, by rw [upd_ne (ne_of h1 hl (by intro z; cases z))]; exact h1, by rw [upd_ne (ne_of_none g h5).symm]; exact h2, by rw [upd_ne (ne_of_none g h6).symm]; exact h3, h4.kept (fun c C dx fs h _ => by rw [upd_ne (ne_of h hl (by intro z; cases z))]; exact h) (TK.lst hl), h5, h6⟩
def nameB : V → Bool
  | .str z => wordB (ls z) && !decide (z = ("turn" : Str))
  | _ => false
theorem unlike_true {lo hi : Int} {xs : List V} (h : unlikeB lo hi xs = true) : xs = (xs.filterMap strV).map V.str ∧ (xs.filterMap strV).Nodup ∧ (∀ z ∈ xs.filterMap strV, Word z) ∧ lo ≤ (xs.length : Int) ∧ (xs.length : Int) ≤ hi := by
  unfold unlikeB at h
  simp only [Bool.and_eq_true, decide_eq_true_eq] at h
  obtain ⟨h1, h2, h3, h4⟩ := h
  refine ⟨words_map h3, h4, fun z hz => ?_, h1, h2⟩
  obtain ⟨v, hv, e⟩ := List.mem_filterMap.mp hz
  have := List.all_eq_true.mp h3 v hv
  cases v <;> first
    | (cases e; exact wordB_iff.mp this)
    | cases e
inductive UWL (K : PySem.W.Frag) (H : Hp) : V → Bool → List Str → Prop
  | seq {p : Addr} {xs : List V} (h : Seq K H p xs) (ws : ∀ y ∈ xs, WQ K H y (wordV y)) (few : xs.length ≤ 100) : UWL K H (.ref p) (unlikeB 1 4 xs) (xs.filterMap strV)
  | oth {x : V} {ty : String} (h : TyX K H x (.type ty)) (k1 : kitB ty "list" = some false) (k2 : kitB ty "tuple" = some false) : UWL K H x false []
theorem UWL.same {K : PySem.W.Frag} {H H' : Hp} {x : V} {b : Bool} {l : List Str} (s : Same H H') (h : UWL K H x b l) : UWL K H' x b l := by
  cases h with
  | seq h ws few => exact .seq (h.same s) (fun y hy => (ws y hy).same s) few
  | oth h k1 k2 => exact .oth (tyX_same s h) k1 k2
theorem UWL.uw {K : PySem.W.Frag} {H : Hp} {x : V} {b : Bool} {l : List Str} (h : UWL K H x b l) : UW K H 1 4 x b := by
  cases h with
  | seq h ws few => exact .seq h ws few
  | oth h k1 k2 => exact .oth h k1 k2
section
variable {P : Program} {w : World} {K : PySem.W.Frag} {mg : Str → Option Value} {base : Heap} {a : Ad}
def spPInit (K : PySem.W.Frag) (CP CD CT X : Addr) : Sp := fun vs H Q E => ∃ (p dx : Addr) (n ws ds : V) (uw : Bool) (wl : List Str) (r : Option (List DD)), vs = [.ref p, n, ws, ds] ∧ H p = some (.ins CP dx []) ∧ WQ K H n (wordV n) ∧ UWL K H ws uw wl ∧ DQ K CD CT H ds r ∧
  (nameB n = false → FliesF E X "part" H (.str "name")) ∧ (nameB n = true → uw = false → FliesF E X "part" H (.str "waits")) ∧ (nameB n = true → uw = true → r = none → FliesF E X "part" H (.str "deeds")) ∧
  (∀ s dl H', n = .str s → nameB n = true → uw = true → r = some dl → 1 ≤ dl.length → dl.length ≤ 4 → But p H H' → ProcIn H K CP CD CT H' p s wl dl → Q .non H')
theorem ok_pinit (T : Tx P K mg a) : FnOk P w K mg base (L2.CX P w) 14 a.f_Process___init__ a.d_Process___init__ ["self", "name", "waits", "deeds"] (spPInit K a.C_Process a.C_Deed a.C_Term a.C_NoProcess) := by
  have F1 : FnOk P w K mg base CX0 1 a.f_is_word a.d_is_word ["value"] (spWordX K) := ok_wordX T
  have F2 : FnOk P w K mg base CX0 2 a.f_are_unlike_words a.d_are_unlike_words ["value", "low", "high"] (spUnlike K) := ok_unlike T
  have F3 : FnOk P w K mg base CX0 12 a.f_deeds_of a.d_deeds_of ["values"] (spDeedsOf K a.C_Deed a.C_Term) := ok_deeds_of T
  refine T.Process___init__.okX sc_Process___init__ (fun vs H Q E h => ?_) (fun cdv A outer s H vs Q E hr h => ?_)
  · obtain ⟨p, dx, n, ws, ds, uw, wl, r, rfl, _⟩ := h
    rfl
  · obtain ⟨p, dx, n, ws, ds, uw, wl, r, rfl, hp, hn, hw, hd, q1, q2, q3, q4⟩ := h
    have nd := sc_Process___init__.nd
    refine ⟨_, (pss_cons (ps_if (PW.pt (pw_or (pt_not (pt_val (pe_cf T.is_word F1 (hr.mono (by decide)) (pa_cons (pv 1) pa_nil)))) (pw_or1 (pt_cmpR (op_eqX hr) (pv 1) (pe_gs T.v_RESERVED) (nomark _))))) (pss_one (ps_raiseT (takes_of rfl rfl rfl rfl) T.e_NoProcess hr (pa_cons pe_str pa_nil))) pss_nil)
      (pss_cons (ps_if (pt_not (pt_val (pe_cf T.are_unlike_words F2 (hr.mono (by decide)) (pa_cons (pv 2) (pa_cons pe_int (pa_cons (pe_gi T.v_MOST_WAITS) pa_nil)))))) (pss_one (ps_raiseT (takes_of rfl rfl rfl rfl) T.e_NoProcess hr (pa_cons pe_str pa_nil))) pss_nil)
      (pss_cons (ps_set (i := 4) nd rfl (Or.inl rfl) (pe_cf T.deeds_of F3 (hr.mono (by decide)) (pa_cons (pv 3) pa_nil)))
      (pss_cons (ps_if (pt_cmp (pc_isN (pv 4))) (pss_one (ps_raiseT (takes_of rfl rfl rfl rfl) T.e_NoProcess hr (pa_cons pe_str pa_nil))) pss_nil)
      (pss_cons (ps_fld (pv 0) (pv 1) rfl)
      (pss_cons (ps_fld (pv 0) (cb_list T.bi (pa_cons (pv 2) pa_nil)) rfl)
      (pss_one (ps_fld (pv 0) (pv 4) rfl)))))))), ?_⟩
    refine ⟨_, rfl, n, wordV n, rfl, hn, fun H1 s1 => ⟨_, rfl, ?_⟩⟩
    cases hwn : wordV n with
    | false =>
      have : nameB n = false := by
        cases n with
        | str z =>
          have e : wordB (ls z) = false := hwn
          show (wordB (ls z) && _) = false
          rw [e]
          rfl
        | _ => rfl
      exact ⟨_, rfl, fun d hd => q1 this d H1 s1 hd⟩
    | true =>
      obtain ⟨z, rfl, hz⟩ : ∃ z, n = .str z ∧ wordB (ls z) = true := by
        cases n <;> first
          | exact ⟨_, rfl, hwn⟩
          | cases hwn
      refine ⟨_, rfl, eqS ?_⟩
      refine ⟨_, rfl, ?_⟩
      have nb : nameB (.str z) = !decide (z = ("turn" : Str)) := by
        show (wordB (ls z) && _) = _
        rw [hz, Bool.true_and]
      by_cases ht : z = ("turn" : Str)
      · rw [decide_eq_true ht]
        rw [decide_eq_true ht] at nb
        exact ⟨_, rfl, fun d hd => q1 nb d H1 s1 hd⟩
      · rw [decide_eq_false ht]
        rw [decide_eq_false ht] at nb
        refine ⟨_, rfl, ws, 1, 4, uw, rfl, hw.uw.same s1, fun H2 s2 => ⟨_, rfl, ?_⟩⟩
        have s12 := s1.trans s2
        cases uw with
        | false => exact ⟨_, rfl, fun d hd => q2 nb rfl d H2 s12 hd⟩
        | true =>
          refine ⟨_, rfl, ds, r, rfl, hd.same s12, fun e H3 s3 => ?_, fun dl e L qs H3 nL s3 hL dd l1 l4 => ?_⟩
          · refine ⟨_, rfl, ?_⟩
            refine ⟨_, rfl, ?_⟩
            exact ⟨_, rfl, fun d hd => q3 nb rfl e d H3 (s12.trans s3) hd⟩
          · refine ⟨_, rfl, ?_⟩
            have s13 := s12.trans s3
            have hp3 := s13 _ _ hp
            refine ⟨_, rfl, ?_⟩
            refine ⟨_, rfl, _, rfl, p, _, dx, [], rfl, hp3, T.c_Process, T.no_Process_title, by decide, ?_⟩
            generalize hwt : true = bt at hw
            cases hw with
            | oth h k1 k2 => cases hwt
            | @seq pp xs hq wq few =>
              obtain ⟨em, _, _, _, few4⟩ := unlike_true hwt.symm
              have b3 : But p H3 (upd H3 p (.ins a.C_Process dx [("title", .str z)])) := But.upd
              have hp4 : (upd H3 p (.ins a.C_Process dx [("title", .str z)])) p = some (.ins a.C_Process dx [("title", .str z)]) := upd_same
              have hL4 : (upd H3 p (.ins a.C_Process dx [("title", .str z)])) L = some (.lst (qs.map V.ref)) := by rw [upd_ne (ne_of hL hp3 (by intro z; cases z))]; exact hL
              have hq4 := hq.ins hp ((But.same s13 p).trans b3)
              show (tSeq _ _ : TS) _ _ (upd H3 p (.ins a.C_Process dx [("title", .str z)]))
              generalize upd H3 p (.ins a.C_Process dx [("title", .str z)]) = H4 at b3 hp4 hL4 hq4
              refine ⟨_, rfl, listL hq4.lt fun pw H5 n5 s5 h5 => ?_⟩
              refine ⟨_, rfl, p, _, dx, _, rfl, s5 _ _ hp4, T.c_Process, T.no_Process_waited, by show 1 < 1000; decide, ?_⟩
              have hp5 := s5 _ _ hp4
              have e2 : putF "waited" (.ref pw) [("title", V.str z)] = ([("title", .str z), ("waited", .ref pw)] : List (Str × V)) := by
                unfold putF
                rw [if_neg (by decide)]
                rfl
              rw [e2]
              have b5 : But p H4 (upd H5 p (.ins a.C_Process dx [("title", .str z), ("waited", .ref pw)])) := fun c o hc e => by
                rw [upd_ne hc]
                exact s5 _ _ e
              have hL5 : (upd H5 p (.ins a.C_Process dx [("title", .str z), ("waited", .ref pw)])) L = some (.lst (qs.map V.ref)) := by rw [upd_ne (ne_of hL4 hp4 (by intro z; cases z))]; exact s5 _ _ hL4
              have hw5 : (upd H5 p (.ins a.C_Process dx [("title", .str z), ("waited", .ref pw)])) pw = some (.lst xs) := by rw [upd_ne (ne_of h5 hp5 (by intro z; cases z))]; exact h5
              have hp6 : (upd H5 p (.ins a.C_Process dx [("title", .str z), ("waited", .ref pw)])) p = some (.ins a.C_Process dx [("title", .str z), ("waited", .ref pw)]) := upd_same
              generalize upd H5 p (.ins a.C_Process dx [("title", .str z), ("waited", .ref pw)]) = H6 at b5 hL5 hw5 hp6
              refine ⟨_, rfl, _, rfl, p, _, dx, _, rfl, hp6, T.c_Process, T.no_Process_done, by show 2 < 1000; decide, ?_⟩
              have e3 : putF "done" (.ref L) ([("title", .str z), ("waited", .ref pw)] : List (Str × V)) = pflds z pw L := by
                unfold putF
                rw [if_neg (by decide)]
                unfold putF
                rw [if_neg (by decide)]
                rfl
              rw [e3]
              have b7 : But p H6 (upd H6 p (.ins a.C_Process dx (pflds z pw L))) := But.upd
              have bb' := (b3.trans b5).trans b7
              refine q4 z dl _ rfl nb rfl e l1 l4 ((But.same s13 p).trans bb') ⟨dx, pw, L, qs, upd_same, ?_, ?_, ?_, ?_, s12.non nL⟩
              · rw [← em]
                exact b7 _ _ (ne_of hw5 hp6 (by intro z; cases z)) hw5
              · exact b7 _ _ (ne_of hL5 hp6 (by intro z; cases z)) hL5
              · exact dd.but hp3 bb'
              · exact ((But.same s13 p).trans (b3)).non (ne_of h5 (s5 _ _ hp4) (by intro z; cases z)) n5
end
end Z
set_option maxRecDepth 100000
set_option maxHeartbeats 4000000
set_option pp.maxSteps 600
namespace Z
open PySem PySem.Spec PyProof.Rows L2
section
variable {P : Program} {w : World} {K : PySem.W.Frag} {mg : Str → Option Value} {base : Heap} {a : Ad}
def spPName (K : PySem.W.Frag) (CP CD CT : Addr) : Sp := fun vs H Q _ => ∃ p s wl dl, vs = [.ref p] ∧ ProcAt K CP CD CT H p s wl dl ∧ Q (.str s) H
theorem ok_pname (T : Tx P K mg a) : FnOk P w K mg base CX0 1 a.f_Process_name a.d_Process_name ["self"] (spPName K a.C_Process a.C_Deed a.C_Term) := by
  refine T.Process_name.ok sc_Process_name (fun vs H Q E h => ?_) (fun cdv A outer s H vs Q E hr h => ?_)
  · obtain ⟨p, x, t, b, rfl, _⟩ := h
    rfl
  · obtain ⟨p, x, wl, dl, rfl, ⟨dx, pw, pd, qs, h1, h2, h3, h4⟩, k⟩ := h
    exact ⟨_, pss_one (ps_ret (pe_fld (pv 0) rfl)), _, rfl, p, _, dx, _, _, rfl, h1, T.c_Process, T.no_Process_title, rfl, k⟩
theorem cons_erase {α : Type} : ∀ {l : List α} (i : Nat) (h : i < l.length), (l[i] :: l.eraseIdx i).Perm l
  | y :: r, 0, h => List.Perm.refl _
  | y :: r, i + 1, h => by
    have := cons_erase (l := r) i (Nat.lt_of_succ_lt_succ h)
    exact (List.Perm.swap y (r[i]'(Nat.lt_of_succ_lt_succ h)) (r.eraseIdx i)).trans (List.Perm.cons y this)
def spTurned (K : PySem.W.Frag) : Sp := fun vs H Q _ => ∃ (l pt : Addr) (xs : List V), vs = [.ref l, .ref pt] ∧ PoolAt H l ∧ pt ≠ l ∧ SqL K H pt xs ∧ xs.length < 1000 ∧
  ∀ p ys H', But l H H' → PoolAt H' l → H p = none → H' p = some (.lst ys) → ys.Perm xs → Q (.ref p) H'
theorem ok_turned (T : Tx P K mg a) : FnOk P w K mg base CX0 2 a.f__law_turned a.d__law_turned ["pool", "things"] (spTurned K) := by
  have F1 : FnOk P w K mg base CX0 1 a.f__law_take a.d__law_take ["pool", "bound"] spTake := ok_take T
  refine T._law_turned.fn.ok sc__law_turned (fun vs H Q E h => ?_) (fun cdv A outer s H vs Q E hr h => ?_)
  · obtain ⟨l, pt, xs, rfl, _⟩ := h
    rfl
  · obtain ⟨l, pt, xs, rfl, hP, npl, hx, few, k⟩ := h
    have nd := sc__law_turned.nd
    refine ⟨_, (pss_cons (ps_par (i := 2) (j := 3) (by rfl) nd rfl rfl (by decide) rfl rfl (pa_cons (cb_list T.bi (pa_cons (pv 1) pa_nil)) (pa_cons (pe_lst pa_nil) pa_nil)) (by rfl))
      (pss_cons (ps_while PassesOwn.never (pt_cmpR (op_neX hr) (pv 2) (pe_lst pa_nil) (nomark _))
        (pss_one (ps_expr (pe_bm PySem.F.plainAttrs_list PySem.F.slot_list_append PySem.F.type_list_append mt_append (pv 3) (pa_cons (pe_bm PySem.F.plainAttrs_list PySem.F.slot_list_pop PySem.F.type_list_pop mt_popAt (pv 2) (pa_cons (pe_cf T._law_take F1 (hr.mono (by decide)) (pa_cons (pv 0) (pa_cons (cb_len T.bi (pa_cons (pv 2) pa_nil)) pa_nil))) pa_nil)) pa_nil)))))
      (pss_one (ps_ret (pv 3))))), ?_⟩
    refine ⟨_, rfl, listL (.inl hx) fun L H1 nL s1 hL => ?_⟩
    refine ⟨Nat.zero_le _, fun F nF => ?_⟩
    refine ⟨_, _, rfl, ?_⟩
    have nLl := hP.ne nL
    have nFl := (hP.same s1).ne nF
    have nLF : L ≠ F := ne_of_none hL nF
    have hFn : H F = none := s1.non nF
    refine ⟨fun m σ H' => ∃ ys zs, m = ys.length ∧ σ = [some (.ref l), some (.ref pt), some (.ref L), some (.ref F)] ∧ H' L = some (.lst ys) ∧ H' F = some (.lst zs) ∧ (zs ++ ys).Perm xs ∧ But l H H' ∧ PoolAt H' l, ⟨_, xs, [], rfl, rfl, by rw [upd_ne nLF]; exact hL, upd_same, List.Perm.refl _, But.fr hFn (But.same s1 l), (hP.same s1).upd nFl⟩, ?_⟩
    rintro m σ H2 ⟨ys, zs, rfl, rfl, hL2, hF2, pm, b2, P2⟩
    have len := pm.length_eq
    rw [List.length_append] at len
    refine ⟨_, rfl, Nat.zero_le _, fun pe ne => ?_⟩
    refine neL0 (.inl (.inl (by rw [upd_ne (ne_of_none hL2 ne)]; exact hL2))) upd_same ?_
    have b3 : But l H (upd H2 pe (.lst [])) := b2.trans (But.same (sNew ne) l)
    have P3 : PoolAt (upd H2 pe (.lst [])) l := P2.upd (P2.ne ne)
    have hL3 : (upd H2 pe (.lst [])) L = some (.lst ys) := by rw [upd_ne (ne_of_none hL2 ne)]; exact hL2
    have hF3 : (upd H2 pe (.lst [])) F = some (.lst zs) := by rw [upd_ne (ne_of_none hF2 ne)]; exact hF2
    generalize upd H2 pe (.lst []) = H3 at b3 P3 hL3 hF3
    refine ⟨_, rfl, ?_⟩
    cases ys with
    | nil =>
      rw [List.append_nil] at pm
      exact ⟨_, rfl, k F zs _ b3 P3 hFn hF3 pm⟩
    | cons y0 yr =>
      refine ⟨fun σ' H' => ∃ ys' zs', ys'.length < (y0 :: yr).length ∧ σ' = [some (.ref l), some (.ref pt), some (.ref L), some (.ref F)] ∧ H' L = some (.lst ys') ∧ H' F = some (.lst zs') ∧ (zs' ++ ys').Perm xs ∧ But l H H' ∧ PoolAt H' l, fun σ' H' ⟨ys', zs', h1, h2⟩ => ⟨_, h1, ys', zs', rfl, h2⟩, ?_⟩
      refine ⟨_, rfl, .inl ⟨rfl, _, .inl (.inl hF3)⟩, _, rfl, .inl ⟨rfl, _, .inl (.inl hL3)⟩, _, rfl, _, rfl, lenL (.inl (.inl hL3)) ?_⟩
      refine ⟨l, _, rfl, P3, by rw [List.length_cons]; omega, by omega, fun r H4 b4 P4 r0 r1 => ?_⟩
      have hL4 := b4 _ _ nLl.symm hL3
      have hF4 := b4 _ _ nFl.symm hF3
      obtain ⟨i, rfl⟩ := Int.eq_ofNat_of_zero_le r0
      have hi : i < (y0 :: yr).length := Int.ofNat_lt.mp r1
      refine ⟨L, y0 :: yr, i, i, (y0 :: yr)[i], rfl, rfl, hL4, by omega, by omega, seqIndex_of r0 r1, List.getElem?_eq_getElem hi, ?_⟩
      refine ⟨F, zs, (y0 :: yr)[i], rfl, rfl, by rw [upd_ne nLF.symm]; exact hF4, by have := sl1k; omega, ?_⟩
      refine ⟨(y0 :: yr).eraseIdx i, zs ++ [(y0 :: yr)[i]], by rw [List.length_eraseIdx_of_lt hi]; omega, rfl, by rw [upd_ne nLF, upd_same], by rw [upd_same], ?_, But.fr hFn (But.fr nL (b3.trans b4)), (P4.upd nLl).upd nFl⟩
      rw [List.append_assoc]
      exact (List.Perm.append_left zs (cons_erase _ hi)).trans pm
end
end Z
set_option maxRecDepth 100000
set_option maxHeartbeats 4000000
set_option pp.maxSteps 600
namespace Z
open PySem PySem.Spec PyProof.Rows L2
inductive All2 {α β : Type} (R : α → β → Prop) : List α → List β → Prop
  | nil : All2 R [] []
  | cons {x : α} {y : β} {xs : List α} {ys : List β} (h : R x y) (t : All2 R xs ys) : All2 R (x :: xs) (y :: ys)
namespace All2
variable {α β : Type} {R S : α → β → Prop}
theorem length {xs : List α} {ys : List β} (h : All2 R xs ys) : xs.length = ys.length := by
  induction h with
  | nil => rfl
  | cons h t ih => rw [List.length_cons, List.length_cons, ih]
theorem imp {xs : List α} {ys : List β} (f : ∀ x y, R x y → S x y) (h : All2 R xs ys) : All2 S xs ys := by
  induction h with
  | nil => exact .nil
  | cons h t ih => exact .cons (f _ _ h) ih
theorem app {xs us : List α} {ys vs : List β} (h : All2 R xs ys) (g : All2 R us vs) : All2 R (xs ++ us) (ys ++ vs) := by
  induction h with
  | nil => exact g
  | cons h t ih => exact .cons h ih
theorem snoc {xs : List α} {ys : List β} {x : α} {y : β} (h : All2 R xs ys) (g : R x y) : All2 R (xs ++ [x]) (ys ++ [y]) := h.app (.cons g .nil)
theorem get {xs : List α} {ys : List β} (h : All2 R xs ys) : ∀ {i : Nat} {x : α}, xs[i]? = some x → ∃ y, ys[i]? = some y ∧ R x y := by
  induction h with
  | nil => intro i x e; simp at e
  | cons h t ih =>
    intro i x e
    cases i with
    | zero => cases e; exact ⟨_, rfl, h⟩
    | succ i => exact ih e
theorem get' {xs : List α} {ys : List β} (h : All2 R xs ys) : ∀ {i : Nat} {y : β}, ys[i]? = some y → ∃ x, xs[i]? = some x ∧ R x y := by
  induction h with
  | nil => intro i x e; simp at e
  | cons h t ih =>
    intro i x e
    cases i with
    | zero => cases e; exact ⟨_, rfl, h⟩
    | succ i => exact ih e
theorem take {xs : List α} {ys : List β} (h : All2 R xs ys) : ∀ n, All2 R (xs.take n) (ys.take n) := by
  induction h with
  | nil => intro n; rw [List.take_nil, List.take_nil]; exact .nil
  | cons h t ih =>
    intro n
    cases n with
    | zero => exact .nil
    | succ n => exact .cons h (ih n)
theorem step {xs : List α} {ys : List β} {n : Nat} {x : α} {y : β} (hx : xs[n]? = some x) (hy : ys[n]? = some y) : xs.take (n + 1) = xs.take n ++ [x] ∧ ys.take (n + 1) = ys.take n ++ [y] := by
  rw [List.take_succ, hx, List.take_succ, hy]
  exact ⟨rfl, rfl⟩
end All2
def DTup (K : PySem.W.Frag) (H : Hp) (v : V) (d : DD) : Prop := ∃ p u, v = .ref p ∧ H p = some (.tup [.str d.1, .bl d.2.2, u]) ∧ Dp K H u d.2.1.d
theorem DTup.tk {K : PySem.W.Frag} {H H' : Hp} {v : V} {d : DD} (k : TK H H') (h : DTup K H v d) : DTup K H' v d := by
  obtain ⟨p, u, rfl, h1, h2⟩ := h
  exact ⟨p, u, rfl, k.tup _ _ h1, tr_tk k _ h2⟩
abbrev DTups (K : PySem.W.Frag) (H : Hp) : List V → List DD → Prop := All2 (DTup K H)
theorem DTups.tk {K : PySem.W.Frag} {H H' : Hp} {vs : List V} {ds : List DD} (k : TK H H') (h : DTups K H vs ds) : DTups K H' vs ds := h.imp fun _ _ h => h.tk k
def DOk (wr ws : List Str) (dg : List Int) (n : Nat) (d : DD) : Prop := d.1 ∈ wr ∧ d.2.1.Ok ∧ d.2.1.deep ≤ n ∧ d.2.1.Of ws dg
theorem PoolAt.tk {l : Addr} {H H' : Hp} (b : But l H H') (h : PoolAt H l) : TK H H' := by
  obtain ⟨p, q, h1, _⟩ := h
  exact b.tk h1
section
variable {P : Program} {w : World} {K : PySem.W.Frag} {mg : Str → Option Value} {base : Heap} {a : Ad}
def spDeedsDrawn (K : PySem.W.Frag) (n : Nat) : Sp := fun vs H Q _ => ∃ (l pwr pws pd : Addr) (wr ws : List Str) (dg : List Int) (md : Nat), vs = [.ref l, .ref pwr, .ref pws, .ref pd, .int (md : Nat), .int (n : Nat)] ∧ PoolAt H l ∧ pwr ≠ l ∧ pws ≠ l ∧ pd ≠ l ∧
  H pwr = some (.lst (wr.map V.str)) ∧ H pws = some (.lst (ws.map V.str)) ∧ H pd = some (.lst (dg.map V.int)) ∧ wr ≠ [] ∧ wr.length < 1000 ∧ ws ≠ [] ∧ ws.length < 1000 ∧ dg.length < 1000 ∧ (∀ y ∈ ws, Word y) ∧ (∀ y ∈ dg, 0 ≤ y ∧ y ≤ 9) ∧ 1 ≤ n ∧ 1 ≤ md ∧ md ≤ 100 ∧
  ∀ p us ds H', But l H H' → PoolAt H' l → H p = none → H' p = some (.lst us) → DTups K H' us ds → 1 ≤ ds.length → ds.length ≤ md → (∀ d ∈ ds, DOk wr ws dg n d) → Q (.ref p) H'
theorem ok_deedsDrawn (T : Tx P K mg a) (n : Nat) : FnOk P w K mg base CX0 (n + 4) a.f__law_deeds_drawn a.d__law_deeds_drawn ["pool", "written", "words", "digits", "bound", "deep"] (spDeedsDrawn K n) := by
  have F1 : FnOk P w K mg base CX0 1 a.f__law_take a.d__law_take ["pool", "bound"] spTake := ok_take T
  have F2 : FnOk P w K mg base CX0 2 a.f__law_one a.d__law_one ["pool", "things"] (spOne K) := ok_one T
  have F3 : FnOk P w K mg base CX0 (n + 3) a.f__law_tree a.d__law_tree ["pool", "words", "digits", "deep"] (spTreeG K n) := ok_treeG T n
  refine T._law_deeds_drawn.fn.ok sc__law_deeds_drawn (fun vs H Q E h => ?_) (fun cdv A outer s H vs Q E hr h => ?_)
  · obtain ⟨l, pwr, pws, pd, wr, ws, dg, md, rfl, _⟩ := h
    rfl
  · obtain ⟨l, pwr, pws, pd, wr, ws, dg, md, rfl, hP, n1, n2, n3, h1, h2, h3, w1, w2, w3, w4, w5, w6, w7, n0, md1, md2, k⟩ := h
    have nd := sc__law_deeds_drawn.nd
    have hr1 : Room 1 _ := hr.mono (by omega)
    have hr2 : Room 2 _ := hr.mono (by omega)
    have hr3 : Room (n + 3) _ := hr.mono (by omega)
    refine ⟨_, (pss_cons (ps_set (i := 6) nd rfl (Or.inl rfl) (pe_lst pa_nil))
      (pss_cons (ps_for PassesOwn.never rfl (pi_range1 rfl T.bi.range (pa_cons (pe_op op_addA pe_int (pe_cf T._law_take F1 hr1 (pa_cons (pv 0) (pa_cons (pv 4) pa_nil)))) pa_nil)) (pg_name (i := 7) nd rfl (Or.inl rfl))
        (pss_cons (ps_set (i := 8) nd rfl (Or.inl rfl) (pe_cf T._law_tree F3 hr3 (pa_cons (pv 0) (pa_cons (pv 2) (pa_cons (pv 3) (pa_cons (pv 5) pa_nil))))))
        (pss_one (ps_expr (pe_bm PySem.F.plainAttrs_list PySem.F.slot_list_append PySem.F.type_list_append mt_append (pv 6) (pa_cons (pe_tup (pa_cons (pe_cf T._law_one F2 hr2 (pa_cons (pv 0) (pa_cons (pv 1) pa_nil))) (pa_cons (pe_cmpR (op_eqX hr) (pe_cf T._law_take F1 hr1 (pa_cons (pv 0) (pa_cons pe_int pa_nil))) pe_int (nomark _)) (pa_cons (pv 8) pa_nil)))) pa_nil))))))
      (pss_one (ps_ret (pv 6))))), ?_⟩
    refine ⟨Nat.zero_le _, fun F nF => ?_⟩
    have nFl := hP.ne nF
    have P0 := hP.upd (o := .lst []) nFl
    have b0 : But l H (upd H F (.lst [])) := But.same (sNew nF) l
    have hF0 : (upd H F (.lst [])) F = some (.lst []) := upd_same
    generalize upd H F (.lst []) = H0 at P0 b0 hF0
    refine ⟨_, rfl, _, rfl, l, _, rfl, P0, by omega, by omega, fun r H1 b1 P1 r0 r1 => addI ⟨_, rfl, by omega, by omega, ?_⟩⟩
    have b01 := b0.trans b1
    refine for_it (walk_range (lo := 0)) (fun m σ H' => ∃ (o7 o8 : Option V) (us : List V) (ds : List DD), σ = [some (.ref l), some (.ref pwr), some (.ref pws), some (.ref pd), some (.int (md : Nat)), some (.int (n : Nat)), some (.ref F), o7, o8] ∧ But l H H' ∧ PoolAt H' l ∧ H' F = some (.lst us) ∧ DTups K H' us ds ∧ us.length = m ∧ ∀ d ∈ ds, DOk wr ws dg n d)
      ⟨none, none, [], [], rfl, b01, P1, b1 _ _ nFl.symm hF0, .nil, rfl, fun d hd => nomatch hd⟩ (fun _ _ _ _ _ => trivial) ?_ ?_
    · rintro m x σ H2 H2' hn ⟨o7, o8, us, ds, rfl, b2, P2, gF, en, ln, ok⟩ ⟨rfl, rfl⟩
      refine ⟨_, rfl, _, rfl, _, rfl, _, rfl, l, pws, pd, ws, dg, rfl, P2, n2, n3, b2 _ _ n2 h2, b2 _ _ n3 h3, w3, w4, w5, w6, w7, n0, fun v t H3 b3 P3 hv tk tn tf => ?_⟩
      have b23 := b2.trans b3
      refine ⟨_, rfl, .inl ⟨rfl, _, .inl (.inl (b3 _ _ nFl.symm gF))⟩, ?_⟩
      refine ⟨_, rfl, _, rfl, l, _, rfl, P3, .inl ⟨pwr, _, rfl, n1, .inl (.inl (b23 _ _ n1 h1)), fun e => w1 (List.map_eq_nil_iff.mp e), by rw [List.length_map]; exact w2, fun i y H4 b4 P4 hy => ?_⟩⟩
      obtain ⟨z, hz, rfl⟩ := map_at hy
      have hm := List.mem_of_getElem? hz
      refine ⟨_, rfl, l, 3, rfl, P4, by decide, by decide, fun r4 H5 b5 P5 _ _ => eqI ?_⟩
      have b45 := b4.trans b5
      have b35 := b3.trans b45
      refine ⟨_, rfl, by show 3 ≤ sizeLine; decide, fun q hq => ?_⟩
      have gF5 := b35 _ _ nFl.symm gF
      have nFq : F ≠ q := ne_of_none gF5 hq
      have hv5 : Dp K H5 v t.d := tr_tk (P3.tk b45) t hv
      refine ⟨F, _, _, rfl, rfl, (sNew hq) _ _ gF5, by rw [ln]; have := sl1k; omega, ?_⟩
      have tkk : TK (upd H5 q (.tup [.str z, .bl (decide (r4 = 0)), v])) (upd (upd H5 q (.tup [.str z, .bl (decide (r4 = 0)), v])) F (.lst (us ++ [V.ref q]))) := TK.lst ((sNew hq) _ _ gF5)
      have eq5 : DTup K (upd H5 q (.tup [.str z, .bl (decide (r4 = 0)), v])) (.ref q) (z, t, decide (r4 = 0)) := ⟨q, v, rfl, upd_same, tr_same (sNew hq) hv5⟩
      refine ⟨_, _, us ++ [.ref q], ds ++ [(z, t, decide (r4 = 0))], rfl, ?_, (P5.upd (P5.ne hq)).upd nFl, upd_same, All2.snoc (((en.tk (P2.tk b35)).tk (TK.of (sNew hq))).tk tkk) (eq5.tk tkk), by rw [List.length_append, ln]; rfl, snoc_all ok ⟨hm, tk, tn, tf⟩⟩
      exact But.fr nF ((b2.trans b35).trans (But.same (sNew hq) l))
    · rintro σ H2 ⟨o7, o8, us, ds, rfl, b2, P2, gF, en, ln, ok⟩
      have := en.length
      refine ⟨_, rfl, k F us ds H2 b2 P2 nF gF en ?_ ?_ ok⟩ <;> omega
end
end Z
set_option maxRecDepth 100000
set_option maxHeartbeats 4000000
set_option pp.maxSteps 600
namespace Z
open PySem PySem.Spec PyProof.Rows L2
abbrev Ent := Str × List Str × List DD
def EntTup (N : Addr → Prop) (K : PySem.W.Frag) (H : Hp) (v : V) (e : Ent) : Prop := ∃ p wl dl us, v = .ref p ∧ H p = some (.tup [.str e.1, .ref wl, .ref dl]) ∧ H wl = some (.lst (e.2.1.map V.str)) ∧ H dl = some (.lst us) ∧ DTups K H us e.2.2 ∧ N wl ∧ N dl
theorem EntTup.to {N : Addr → Prop} {K : PySem.W.Frag} {H H' : Hp} {v : V} {e : Ent} (tk : TK H H') (k : ∀ x o, N x → H x = some o → H' x = some o) (h : EntTup N K H v e) : EntTup N K H' v e := by
  obtain ⟨p, wl, dl, us, rfl, h1, h2, h3, h4, h5, h6⟩ := h
  exact ⟨p, wl, dl, us, rfl, tk.tup _ _ h1, k _ _ h5 h2, k _ _ h6 h3, h4.tk tk, h5, h6⟩
theorem EntTup.same {N : Addr → Prop} {K : PySem.W.Frag} {H H' : Hp} {v : V} {e : Ent} (s : Same H H') (h : EntTup N K H v e) : EntTup N K H' v e := h.to (TK.of s) fun x o _ => s x o
theorem EntTup.imp {N M : Addr → Prop} {K : PySem.W.Frag} {H : Hp} {v : V} {e : Ent} (f : ∀ x, N x → M x) (h : EntTup N K H v e) : EntTup M K H v e := by
  obtain ⟨p, wl, dl, us, rfl, h1, h2, h3, h4, h5, h6⟩ := h
  exact ⟨p, wl, dl, us, rfl, h1, h2, h3, h4, f _ h5, f _ h6⟩
theorem EntTup.impH {N M : Addr → Prop} {K : PySem.W.Frag} {H : Hp} {v : V} {e : Ent} (f : ∀ x o, N x → H x = some o → M x) (h : EntTup N K H v e) : EntTup M K H v e := by
  obtain ⟨p, wl, dl, us, rfl, h1, h2, h3, h4, h5, h6⟩ := h
  exact ⟨p, wl, dl, us, rfl, h1, h2, h3, h4, f _ _ h5 h2, f _ _ h6 h3⟩
abbrev EntTups (N : Addr → Prop) (K : PySem.W.Frag) (H : Hp) : List V → List Ent → Prop := All2 (EntTup N K H)
theorem EntTups.to {N : Addr → Prop} {K : PySem.W.Frag} {H H' : Hp} {vs : List V} {es : List Ent} (tk : TK H H') (k : ∀ x o, N x → H x = some o → H' x = some o) (h : EntTups N K H vs es) : EntTups N K H' vs es := h.imp fun _ _ h => h.to tk k
theorem EntTups.same {N : Addr → Prop} {K : PySem.W.Frag} {H H' : Hp} {vs : List V} {es : List Ent} (s : Same H H') (h : EntTups N K H vs es) : EntTups N K H' vs es := h.imp fun _ _ h => h.same s
def lessStep (s : Int × List DD) (d : DD) : Int × List DD := (s.1 - (if !d.2.2 then 1 else 0), s.2 ++ [(d.1, d.2.1, d.2.2 || decide (s.1 - (if !d.2.2 then 1 else 0) < 0))])
def lessEnt (s : Int × List Ent) (e : Ent) : Int × List Ent := ((e.2.2.foldl lessStep (s.1, [])).1, s.2 ++ [(e.1, e.2.1, (e.2.2.foldl lessStep (s.1, [])).2)])
def lessOnce (es : List Ent) : List Ent := (es.foldl lessEnt (8, [])).2
theorem fold_step {α β : Type} (f : β → α → β) (b : β) {xs : List α} {n : Nat} {x : α} (h : xs[n]? = some x) : (xs.take (n + 1)).foldl f b = f ((xs.take n).foldl f b) x := by
  rw [List.take_succ, h, List.foldl_append]
  rfl
theorem _root_.L2.Room.un1 {k : Nat} {A : Around} (h : Room k A) : A.units + 1 < cLine := by have := h.un; omega
def dictPI (pp vi : V) : List (Key × V) := [(.inr "processes", pp), (.inr "inputs", vi)]
theorem valPI1 {pp vi : V} : valV (dictPI pp vi) (.inr "processes") = some pp := valV_pos rfl
theorem valPI2 {pp vi : V} : valV (dictPI pp vi) (.inr "inputs") = some vi := (valV_neg (show ¬ (Sum.inr "processes" : Key) = .inr "inputs" by decide)).trans (valV_pos rfl)
theorem mergePI {pp vi : V} : mergeK [] (dictPI pp vi) = dictPI pp vi := rfl
section
variable {P : Program} {w : World} {K : PySem.W.Frag} {mg : Str → Option Value} {base : Heap} {a : Ad}
def spLess (K : PySem.W.Frag) : Sp := fun vs H Q _ => ∃ (d pp : Addr) (vi : V) (us : List V) (es : List Ent) (N : Addr → Prop), vs = [.ref d] ∧ H d = some (.dK (dictPI (.ref pp) vi)) ∧ H pp = some (.lst us) ∧ EntTups N K H us es ∧ us.length ≤ 100 ∧ (∀ e ∈ es, e.2.2.length ≤ 100) ∧
  ∀ d' F us' H', Same H H' → H d' = none → H F = none → H' d' = some (.dK (dictPI (.ref F) vi)) → H' F = some (.lst us') → EntTups (fun x => N x ∨ H x = none) K H' us' (lessOnce es) → Q (.ref d') H'
theorem ok_less (T : Tx P K mg a) : FnOk P w K mg base CX0 1 a.f__law_less_at_once a.d__law_less_at_once ["plain"] (spLess K) := by
  refine T._law_less_at_once.fn.ok sc__law_less_at_once (fun vs H Q E h => ?_) (fun cdv A outer s H vs Q E hr h => ?_)
  · obtain ⟨d, pp, vi, us, es, N, rfl, _⟩ := h
    rfl
  · obtain ⟨d, pp, vi, us, es, N, rfl, hd, hp, he, few, fewd, k⟩ := h
    have nd := sc__law_less_at_once.nd
    refine ⟨_, (pss_cons (ps_par (i := 1) (j := 2) (by rfl) nd rfl rfl (by decide) rfl rfl (pa_cons pe_int (pa_cons (pe_lst pa_nil) pa_nil)) (by rfl))
      (pss_cons (ps_for PassesOwn.never rfl (pi_list (pe_dget hr.un1 (pv 0) pe_str (fun _ _ => rfl))) (pg_tup rfl (pgs_cons (pg_name (i := 3) nd rfl (Or.inl rfl)) (pgs_cons (pg_name (i := 4) nd rfl (Or.inl rfl)) (pgs_cons (pg_name (i := 5) nd rfl (Or.inl rfl)) pgs_nil))))
        (pss_cons (ps_set (i := 6) nd rfl (Or.inl rfl) (pe_lst pa_nil))
        (pss_cons (ps_for PassesOwn.never rfl (pi_list (pv 5)) (pg_tup rfl (pgs_cons (pg_name (i := 7) nd rfl (Or.inl rfl)) (pgs_cons (pg_name (i := 8) nd rfl (Or.inl rfl)) (pgs_cons (pg_name (i := 9) nd rfl (Or.inl rfl)) pgs_nil))))
          (pss_cons (ps_set (i := 1) nd rfl (Or.inl rfl) (pe_op op_sub (pv 1) (cb_int T.bi (pa_cons (pe_not (pv 8)) pa_nil))))
          (pss_one (ps_expr (pe_bm PySem.F.plainAttrs_list PySem.F.slot_list_append PySem.F.type_list_append mt_append (pv 6) (pa_cons (pe_tup (pa_cons (pv 7) (pa_cons (pe_or (pv 8) (pe_one (pe_cmpR op_lt (pv 1) pe_int (nomark _)))) (pa_cons (pv 9) pa_nil)))) pa_nil))))))
        (pss_one (ps_expr (pe_bm PySem.F.plainAttrs_list PySem.F.slot_list_append PySem.F.type_list_append mt_append (pv 2) (pa_cons (pe_tup (pa_cons (pv 3) (pa_cons (pv 4) (pa_cons (pv 6) pa_nil)))) pa_nil)))))))
      (pss_one (ps_ret (pe_disp (pps_cons pe_str (pv 2) (pps_cons pe_str (pe_dget hr.un1 (pv 0) pe_str (fun _ _ => rfl)) pps_nil)) (by rfl) (by rfl) (fun z => by cases z) (by decide)))))), ?_⟩
    refine ⟨Nat.zero_le _, fun F nF => ?_⟩
    refine ⟨_, _, rfl, ?_⟩
    have s0 := sNew (o := .lst []) nF
    refine ⟨_, rfl, d, _, rfl, .inl ⟨_, .inr "processes", .inl (s0 _ _ hd), rfl, valPI1.symm⟩, pp, rfl, ⟨us, .inl (.inl (s0 _ _ hp))⟩, ?_⟩
    refine for_it (walk_list (xs := us)) (fun m σ H' => ∃ (o3 o4 o5 o6 o7 o8 o9 : Option V) (vs : List V), σ = [some (.ref d), some (.int ((es.take m).foldl lessEnt (8, [])).1), some (.ref F), o3, o4, o5, o6, o7, o8, o9] ∧ Same H H' ∧ H' F = some (.lst vs) ∧
      EntTups (fun x => (N x ∨ H x = none) ∧ x ≠ F) K H' vs ((es.take m).foldl lessEnt (8, [])).2 ∧ vs.length = m) ⟨none, none, none, none, none, none, none, [], rfl, s0, upd_same, .nil, rfl⟩ (fun _ _ _ _ ⟨_, _, _, _, _, _, _, _, _, sm, _⟩ => .inl (.inl (sm _ _ hp))) ?_ ?_
    · rintro m x σ H1 H1' hn ⟨o3, o4, o5, o6, o7, o8, o9, vs, rfl, sm, hF, en, ln⟩ ⟨rfl, hx⟩
      obtain ⟨e, hE, p, wl, dl, ts, rfl, t1, t2, t3, t4, t5, t6⟩ := he.get hx
      have fe := fewd e (List.mem_of_getElem? hE)
      have fs := fold_step lessEnt (8, []) hE
      generalize (es.take m).foldl lessEnt (8, []) = st at en fs
      refine ⟨p, _, rfl, .inl (.inl (sm _ _ t1)), rfl, _, _, rfl, _, _, rfl, _, _, rfl, rfl, ?_⟩
      refine ⟨Nat.zero_le _, fun M nM => ?_⟩
      have s1 := sNew (o := .lst []) nM
      have nMF : M ≠ F := (ne_of_none hF nM).symm
      refine ⟨_, rfl, dl, rfl, ⟨ts, .inl (.inl (s1 _ _ (sm _ _ t3)))⟩, ?_⟩
      refine for_it (walk_list (xs := ts)) (fun j σ H' => ∃ (o7 o8 o9 : Option V) (ws : List V), σ = [some (.ref d), some (.int ((e.2.2.take j).foldl lessStep (st.1, [])).1), some (.ref F), some (.str e.1), some (.ref wl), some (.ref dl), some (.ref M), o7, o8, o9] ∧ Same H1' H' ∧ H' M = some (.lst ws) ∧
        DTups K H' ws ((e.2.2.take j).foldl lessStep (st.1, [])).2 ∧ ws.length = j) ⟨o7, o8, o9, [], rfl, s1, upd_same, .nil, rfl⟩ (fun _ _ _ _ ⟨_, _, _, _, _, sj, _⟩ => .inl (.inl (sj _ _ (sm _ _ t3)))) ?_ ?_
      · rintro j x σ H2 H2' hj ⟨o7, o8, o9, ws, rfl, sj, hM, dw, lw⟩ ⟨rfl, hx⟩
        obtain ⟨dd, hD, q, u, rfl, g1, g2⟩ := t4.get hx
        have gs := fold_step lessStep (st.1, []) hD
        generalize (e.2.2.take j).foldl lessStep (st.1, []) = sd at dw gs
        have smj := sm.trans sj
        refine ⟨q, _, rfl, .inl (.inl (smj _ _ g1)), rfl, _, _, rfl, _, _, rfl, _, _, rfl, rfl, ?_⟩
        refine ⟨_, rfl, _, rfl, _, rfl, intB ?_⟩
        refine ⟨_, _, rfl, rfl, ?_⟩
        refine ⟨_, rfl, .inl ⟨rfl, _, .inl (.inl hM)⟩, ?_⟩
        refine ⟨_, rfl, _, rfl, _, rfl, ?_⟩
        have hj' : j < ts.length := hj
        have l4 := t4.length
        have fin : ∀ b : Bool, b = (dd.2.2 || decide (sd.1 - (if !dd.2.2 then 1 else 0) < 0)) → ∀ q', H2' q' = none → ∃ (o7 o8 o9 : Option V) (ws' : List V), [some (V.ref d), some (.int (sd.1 - (if !dd.2.2 then 1 else 0))), some (.ref F), some (.str e.1), some (.ref wl), some (.ref dl), some (.ref M), some (.str dd.1), some (.bl dd.2.2), some u] = [some (V.ref d), some (.int ((e.2.2.take (j + 1)).foldl lessStep (st.1, [])).1), some (.ref F), some (.str e.1), some (.ref wl), some (.ref dl), some (.ref M), o7, o8, o9] ∧
            Same H1' (upd (upd H2' q' (.tup [.str dd.1, .bl b, u])) M (.lst (ws ++ [.ref q']))) ∧ (upd (upd H2' q' (.tup [.str dd.1, .bl b, u])) M (.lst (ws ++ [.ref q']))) M = some (.lst ws') ∧ DTups K (upd (upd H2' q' (.tup [.str dd.1, .bl b, u])) M (.lst (ws ++ [.ref q']))) ws' ((e.2.2.take (j + 1)).foldl lessStep (st.1, [])).2 ∧ ws'.length = j + 1 := fun b eb q' nq => by
          subst eb
          rw [gs]
          have hM2 := sNew (o := .tup [.str dd.1, .bl (dd.2.2 || decide (sd.1 - (if !dd.2.2 then 1 else 0) < 0)), u]) nq _ _ hM
          have tk2 := TK.of (sNew (o := .tup [.str dd.1, .bl (dd.2.2 || decide (sd.1 - (if !dd.2.2 then 1 else 0) < 0)), u]) nq)
          refine ⟨_, _, _, ws ++ [.ref q'], rfl, sUpd nM (sj.trans (sNew nq)), upd_same, ?_, by rw [List.length_append, lw]; rfl⟩
          have tk3 := TK.lst (o := .lst (ws ++ [.ref q'])) hM2
          refine All2.snoc ((dw.tk tk2).tk tk3) (DTup.tk tk3 ⟨q', u, rfl, upd_same, ?_⟩)
          exact tr_same ((smj.trans (sNew nq))) g2
        have room : ws.length < sizeLine := by have := sl1k; omega
        cases hl : dd.2.2 with
        | true =>
          rw [hl] at fin
          refine ⟨_, rfl, by show 3 ≤ sizeLine; decide, fun q' nq => ?_⟩
          exact ⟨M, _, _, rfl, rfl, sNew nq _ _ hM, room, fin true rfl q' nq⟩
        | false =>
          rw [hl] at fin
          refine ⟨_, rfl, _, _, rfl, rfl, ?_⟩
          refine ⟨_, rfl, by show 3 ≤ sizeLine; decide, fun q' nq => ?_⟩
          exact ⟨M, _, _, rfl, rfl, sNew nq _ _ hM, room, fin _ rfl q' nq⟩
      · rintro σ H2 ⟨o7, o8, o9, ws, rfl, sj, hM, dw, lw⟩
        have le : ts.length = e.2.2.length := t4.length
        have lt : e.2.2.take ts.length = e.2.2 := by rw [le, List.take_length]
        have dw : DTups K H2 ws ((e.2.2.take ts.length).foldl lessStep (st.1, [])).2 := dw
        rw [lt] at dw
        refine ⟨_, rfl, .inl ⟨rfl, _, .inl (.inl (sj _ _ hF))⟩, ?_⟩
        refine ⟨_, rfl, _, rfl, _, rfl, by show 3 ≤ sizeLine; decide, fun q nq => ?_⟩
        refine ⟨F, _, _, rfl, rfl, sNew nq _ _ (sj _ _ hF), ?_, ?_⟩
        · have := sl1k
          omega
        · have nwF : wl ≠ F := ne_of_none t2 nF
          have hF2 := sNew (o := .tup [.str e.1, .ref wl, .ref M]) nq _ _ (sj _ _ hF)
          have tk3 := TK.lst (o := .lst (vs ++ [.ref q])) hF2
          have nqF : q ≠ F := (ne_of_none (sj _ _ hF) nq).symm
          refine ⟨some (.str e.1), some (.ref wl), some (.ref dl), some (.ref M), o7, o8, o9, vs ++ [.ref q], ?_, sUpd nF ((sm.trans sj).trans (sNew nq)), upd_same, ?_, by rw [List.length_append, ln]; rfl⟩
          · rw [fs]
            show [_, some (V.int ((e.2.2.take ts.length).foldl lessStep (st.1, [])).1), _, _, _, _, _, _, _, _] = _
            rw [lt]
            rfl
          · rw [fs]
            refine All2.snoc (EntTups.to tk3 (fun x o nx hx => by rw [upd_ne nx.2]; exact hx) ((en.same sj).same (sNew nq))) ⟨q, wl, M, ws, rfl, ?_, ?_, ?_, (dw.tk (TK.of (sNew nq))).tk tk3, ⟨.inl t5, nwF⟩, .inr (sm.non nM), nMF⟩
            · rw [upd_ne nqF, upd_same]
            · rw [upd_ne nwF]
              exact sNew nq _ _ (sj _ _ (sm _ _ t2))
            · rw [upd_ne nMF]
              exact sNew nq _ _ hM
    · rintro σ H2 ⟨o3, o4, o5, o6, o7, o8, o9, vs, rfl, sm, hF, en, ln⟩
      have le : us.length = es.length := he.length
      have en : EntTups (fun x => (N x ∨ H x = none) ∧ x ≠ F) K H2 vs ((es.take us.length).foldl lessEnt (8, [])).2 := en
      rw [show es.take us.length = es by rw [le, List.take_length]] at en
      refine fun d' nd' => ?_
      have s2 := sNew (o := .dK []) nd'
      refine ⟨_, rfl, ?_⟩
      refine ⟨_, rfl, d, vi, rfl, .inl ⟨_, .inr "inputs", .inl (s2 _ _ (sm _ _ hd)), rfl, valPI2.symm⟩, ?_⟩
      refine ⟨upd_same, dictPI (.ref F) vi, rfl, by show 2 ≤ 15; decide, ?_⟩
      rw [mergePI]
      have sE : Same H2 (upd (upd H2 d' (.dK [])) d' (.dK (dictPI (.ref F) vi))) := sUpd nd' (sNew nd')
      exact k d' F vs _ (sm.trans sE) (sm.non nd') nF upd_same (sE _ _ hF) ((en.same sE).imp fun _ _ h => h.imp fun x hx => hx.1)
end
end Z
set_option maxRecDepth 100000
set_option maxHeartbeats 4000000
set_option pp.maxSteps 600
namespace Z
open PySem PySem.Spec PyProof.Rows L2
theorem cutV_hi {xs : List V} {j : Nat} : cutV xs none (some (j : Int)) = xs.take j := by
  unfold cutV
  rw [HT.sIx_none, HT.sIx_nat, List.drop_zero, Nat.sub_zero]
  by_cases h : j ≤ xs.length
  · rw [Nat.min_eq_left h]
  · rw [Nat.min_eq_right (by omega), List.take_length, List.take_of_length_le (by omega)]
theorem cutV_lo {xs : List V} {j : Nat} : cutV xs (some (j : Int)) none = xs.drop j := by
  unfold cutV
  rw [HT.sIx_none, HT.sIx_nat]
  by_cases h : j ≤ xs.length
  · rw [Nat.min_eq_left h, List.take_of_length_le (by rw [List.length_drop]; omega)]
  · rw [Nat.min_eq_right (by omega), List.drop_length, List.drop_of_length_le (by omega), List.take_nil]
def dgMenu : List (List Int) := [[], [0], [1], [0, 1], [2, 7]]
def ttMenu : List (List Str) := [["p", "q", "r", "s", "t"], ["t", "s", "r", "q", "p"]]
def EOk (wr ws : List Str) (dg : List Int) (md n : Nat) (e : Ent) : Prop := e.2.1.Nodup ∧ (∀ y ∈ e.2.1, y ∈ ws) ∧ 1 ≤ e.2.1.length ∧ e.2.1.length ≤ 2 ∧ 1 ≤ e.2.2.length ∧ e.2.2.length ≤ md ∧ ∀ d ∈ e.2.2, DOk wr ws dg n d
def PlainFine (mp md n : Nat) (es : List Ent) (ins : List Str) : Prop := ∃ (ws : List Str) (j : Nat) (dg : List Int) (tt : List Str) (e0 : List Ent), ws.Nodup ∧ (∀ y ∈ ws, Short y) ∧ 3 ≤ ws.length ∧ ws.length ≤ 4 ∧ 1 ≤ j ∧ j + 2 ≤ ws.length ∧ ins = ws.take j ∧ dg ∈ dgMenu ∧ tt ∈ ttMenu ∧
  es = lessOnce e0 ∧ 1 ≤ e0.length ∧ e0.length ≤ mp ∧ e0.map (·.1) = tt.take e0.length ∧ ∀ e ∈ e0, EOk (ws.drop j) ws dg md n e
theorem dg_small {dg : List Int} (h : dg ∈ dgMenu) : (∀ y ∈ dg, 0 ≤ y ∧ y ≤ 9) ∧ dg.length < 1000 := by
  simp only [dgMenu, List.mem_cons, List.not_mem_nil, or_false] at h
  rcases h with rfl | rfl | rfl | rfl | rfl <;> decide
section
variable {P : Program} {w : World} {K : PySem.W.Frag} {mg : Str → Option Value} {base : Heap} {a : Ad}
def tTaken (K : PySem.W.Frag) : TE := tOp (rAddA K) (tC (.int 1)) (tCB rIntA (tCons (tAndV (tOp (rI0 fun i j => .bl (decide (j < i))) (tCB (rLenA K) (tCons (tVar 4) tNil)) (tC (.int 3))) (tOp (rEqX K) (tCall spTake [] E0 (tCons (tVar 0) (tCons (tC (.int 3)) tNil))) (tC (.int 0)))) tNil))
theorem taken_it {l W : Addr} {σ : L2.St} {H : Hp} {Q : VK} {ws : List Str} (h0 : σ[0]? = some (some (.ref l))) (h4 : σ[4]? = some (some (.ref W))) (hW : H W = some (.lst (ws.map V.str))) (hP : PoolAt H l) (l3 : 3 ≤ ws.length) (l4 : ws.length ≤ 4)
    (q : ∀ (j : Nat) H', But l H H' → PoolAt H' l → 1 ≤ j → j + 2 ≤ ws.length → Q (.int (j : Nat)) H') : tTaken K σ H Q := by
  refine ⟨_, h4, lenL (.inl (.inl hW)) ?_⟩
  refine ⟨_, _, rfl, rfl, ?_⟩
  refine ⟨_, rfl, ?_⟩
  rw [List.length_map]
  by_cases h : (3 : Int) < (ws.length : Int)
  · rw [decide_eq_true h]
    refine ⟨_, h0, l, 3, rfl, hP, by decide, by decide, fun r H1 b1 P1 r0 r1 => eqI ?_⟩
    by_cases hr : r = 0
    · rw [decide_eq_true hr]
      exact intB (addI (q 2 H1 b1 P1 (by decide) (by omega)))
    · rw [decide_eq_false hr]
      exact intB (addI (q 1 H1 b1 P1 (by decide) (by omega)))
  · rw [decide_eq_false h]
    exact intB (addI (q 1 H (But.refl _ _) hP (by decide) (by omega)))
theorem tt_item {H : Hp} {p1 p2 : Addr} {i : Nat} {y : V} (hy : [V.ref p1, .ref p2][i]? = some y) (h1 : H p1 = some (.lst [.str "p", .str "q", .str "r", .str "s", .str "t"])) (h2 : H p2 = some (.lst [.str "t", .str "s", .str "r", .str "q", .str "p"])) :
    ∃ (pd : Addr) (tt : List Str), y = .ref pd ∧ tt ∈ ttMenu ∧ H pd = some (.lst (tt.map V.str)) ∧ (pd = p1 ∨ pd = p2) := by
  have hm := List.mem_of_getElem? hy
  simp only [List.mem_cons, List.not_mem_nil, or_false] at hm
  rcases hm with rfl | rfl
  · exact ⟨_, ["p", "q", "r", "s", "t"], rfl, by unfold ttMenu; simp, h1, by simp⟩
  · exact ⟨_, ["t", "s", "r", "q", "p"], rfl, by unfold ttMenu; simp, h2, by simp⟩
theorem tt_len {tt : List Str} (h : tt ∈ ttMenu) : tt.length = 5 := by
  simp only [ttMenu, List.mem_cons, List.not_mem_nil, or_false] at h
  rcases h with rfl | rfl <;> rfl
theorem sv_str : ∀ ws : List Str, (ws.map V.str).filterMap strV = ws
  | [] => rfl
  | w :: r => by
    show w :: (r.map V.str).filterMap strV = _
    rw [sv_str r]
theorem strs_map : ∀ {ys : List V}, (∀ y ∈ ys, ∃ z : Str, y = .str z) → ys = (ys.filterMap strV).map V.str
  | [], _ => rfl
  | y :: r, h => by
    obtain ⟨z, rfl⟩ := h y List.mem_cons_self
    show _ = V.str z :: (r.filterMap strV).map V.str
    rw [← strs_map fun y hy => h y (List.mem_cons_of_mem _ hy)]
theorem perm_strs {ys : List V} {ws : List Str} (h : ys.Perm (ws.map V.str)) : ∃ zs : List Str, ys = zs.map V.str ∧ zs.Perm ws := by
  refine ⟨ys.filterMap strV, strs_map fun y hy => ?_, ?_⟩
  · obtain ⟨z, _, e⟩ := List.mem_map.mp (h.mem_iff.mp hy)
    exact ⟨z, e.symm⟩
  · have := h.filterMap strV
    rwa [sv_str] at this
theorem dg_item {H : Hp} {p1 p2 p3 p4 p5 : Addr} {i : Nat} {y : V} (hy : [V.ref p1, .ref p2, .ref p3, .ref p4, .ref p5][i]? = some y) (h1 : H p1 = some (.lst [])) (h2 : H p2 = some (.lst [.int 0])) (h3 : H p3 = some (.lst [.int 1])) (h4 : H p4 = some (.lst [.int 0, .int 1])) (h5 : H p5 = some (.lst [.int 2, .int 7])) :
    ∃ (pd : Addr) (dg : List Int), y = .ref pd ∧ dg ∈ dgMenu ∧ H pd = some (.lst (dg.map V.int)) ∧ (pd = p1 ∨ pd = p2 ∨ pd = p3 ∨ pd = p4 ∨ pd = p5) := by
  have hm := List.mem_of_getElem? hy
  simp only [List.mem_cons, List.not_mem_nil, or_false] at hm
  rcases hm with rfl | rfl | rfl | rfl | rfl
  · exact ⟨_, [], rfl, by decide, h1, by simp⟩
  · exact ⟨_, [0], rfl, by decide, h2, by simp⟩
  · exact ⟨_, [1], rfl, by decide, h3, by simp⟩
  · exact ⟨_, [0, 1], rfl, by decide, h4, by simp⟩
  · exact ⟨_, [2, 7], rfl, by decide, h5, by simp⟩
def spPlain (K : PySem.W.Frag) (n : Nat) : Sp := fun vs H Q _ => ∃ (l : Addr) (mp md : Nat), vs = [.ref l, .int (mp : Nat), .int (md : Nat), .int (n : Nat)] ∧ PoolAt H l ∧ 1 ≤ mp ∧ mp ≤ 5 ∧ 1 ≤ md ∧ md ≤ 100 ∧ 1 ≤ n ∧
  ∀ d F ip us es ins H', But l H H' → PoolAt H' l → H d = none → H F = none → H ip = none → H' d = some (.dK (dictPI (.ref F) (.ref ip))) → H' F = some (.lst us) → H' ip = some (.lst (ins.map V.str)) → EntTups (fun x => H x = none) K H' us es → PlainFine mp md n es ins → Q (.ref d) H'
theorem ok_plain (T : Tx P K mg a) (n : Nat) : FnOk P w K mg base CX0 (n + 5) a.f__law_plain a.d__law_plain ["pool", "many_processes", "many_deeds", "deep"] (spPlain K n) := by
  have F1 : FnOk P w K mg base CX0 1 a.f__law_take a.d__law_take ["pool", "bound"] spTake := ok_take T
  have F2 : FnOk P w K mg base CX0 2 a.f__law_one a.d__law_one ["pool", "things"] (spOne K) := ok_one T
  have F3 : FnOk P w K mg base CX0 3 a.f__law_words a.d__law_words ["pool", "bound"] (spWordsN K) := ok_wordsN T
  have F4 : FnOk P w K mg base CX0 2 a.f__law_turned a.d__law_turned ["pool", "things"] (spTurned K) := ok_turned T
  have F5 : FnOk P w K mg base CX0 (n + 4) a.f__law_deeds_drawn a.d__law_deeds_drawn ["pool", "written", "words", "digits", "bound", "deep"] (spDeedsDrawn K n) := ok_deedsDrawn T n
  have F6 : FnOk P w K mg base CX0 1 a.f__law_less_at_once a.d__law_less_at_once ["plain"] (spLess K) := ok_less T
  refine T._law_plain.fn.ok sc__law_plain (fun vs H Q E h => ?_) (fun cdv A outer s H vs Q E hr h => ?_)
  · obtain ⟨l, mp, md, rfl, _⟩ := h
    rfl
  · obtain ⟨l, mp, md, rfl, hP, mp1, mp5, md1, md2, one, k⟩ := h
    have nd := sc__law_plain.nd
    have hr1 : Room 1 _ := hr.mono (by omega)
    have hr2 : Room 2 _ := hr.mono (by omega)
    have hr3 : Room 3 _ := hr.mono (by omega)
    have hr4 : Room (n + 4) _ := hr.mono (by omega)
    refine ⟨_, (pss_cons (ps_set (i := 4) nd rfl (Or.inl rfl) (pe_cf T._law_words F3 hr3 (pa_cons (pv 0) (pa_cons (pe_op op_addA pe_int (pe_cf T._law_take F1 hr1 (pa_cons (pv 0) (pa_cons pe_int pa_nil)))) pa_nil))))
      (pss_cons (ps_set (i := 5) nd rfl (Or.inl rfl) (pe_slice sl_list (pv 4) po_none (po_some (pe_op op_addA pe_int (cb_int T.bi (pa_cons (pe_and (pe_cmpR op_gt (cb_len T.bi (pa_cons (pv 4) pa_nil)) pe_int (nomark _)) (pe_one (pe_cmpR (op_eqX hr) (pe_cf T._law_take F1 hr1 (pa_cons (pv 0) (pa_cons pe_int pa_nil))) pe_int (nomark _)))) pa_nil))))))
      (pss_cons (ps_set (i := 6) nd rfl (Or.inl rfl) (pe_slice sl_list (pv 4) (po_some (cb_len T.bi (pa_cons (pv 5) pa_nil))) po_none))
      (pss_cons (ps_set (i := 7) nd rfl (Or.inl rfl) (pe_cf T._law_one F2 hr2 (pa_cons (pv 0) (pa_cons (pe_lst (pa_cons (pe_lst pa_nil) (pa_cons (pe_lst (pa_cons pe_int pa_nil)) (pa_cons (pe_lst (pa_cons pe_int pa_nil)) (pa_cons (pe_lst (pa_cons pe_int (pa_cons pe_int pa_nil))) (pa_cons (pe_lst (pa_cons pe_int (pa_cons pe_int pa_nil))) pa_nil)))))) pa_nil))))
      (pss_cons (ps_set (i := 8) nd rfl (Or.inl rfl) (pe_lst pa_nil))
      (pss_cons (ps_set (i := 9) nd rfl (Or.inl rfl) (pe_cf T._law_one F2 hr2 (pa_cons (pv 0) (pa_cons (pe_lst (pa_cons (pe_lst (pa_cons pe_str (pa_cons pe_str (pa_cons pe_str (pa_cons pe_str (pa_cons pe_str pa_nil)))))) (pa_cons (pe_lst (pa_cons pe_str (pa_cons pe_str (pa_cons pe_str (pa_cons pe_str (pa_cons pe_str pa_nil)))))) pa_nil))) pa_nil))))
      (pss_cons (ps_for PassesOwn.never rfl (pi_list (pe_slice sl_list (pv 9) po_none (po_some (pe_op op_addA pe_int (pe_cf T._law_take F1 hr1 (pa_cons (pv 0) (pa_cons (pv 1) pa_nil))))))) (pg_name (i := 10) nd rfl (Or.inl rfl))
        (pss_cons (ps_set (i := 11) nd rfl (Or.inl rfl) (pe_slice sl_list (pe_cf T._law_turned F4 hr2 (pa_cons (pv 0) (pa_cons (pv 4) pa_nil))) po_none (po_some (pe_op op_addA pe_int (pe_cf T._law_take F1 hr1 (pa_cons (pv 0) (pa_cons pe_int pa_nil)))))))
        (pss_cons (ps_set (i := 12) nd rfl (Or.inl rfl) (pe_cf T._law_deeds_drawn F5 hr4 (pa_cons (pv 0) (pa_cons (pv 6) (pa_cons (pv 4) (pa_cons (pv 7) (pa_cons (pv 2) (pa_cons (pv 3) pa_nil))))))))
        (pss_one (ps_expr (pe_bm PySem.F.plainAttrs_list PySem.F.slot_list_append PySem.F.type_list_append mt_append (pv 8) (pa_cons (pe_tup (pa_cons (pv 10) (pa_cons (pv 11) (pa_cons (pv 12) pa_nil)))) pa_nil)))))))
      (pss_one (ps_ret (pe_cf T._law_less_at_once F6 hr1 (pa_cons (pe_disp (pps_cons pe_str (pv 8) (pps_cons pe_str (pv 5) pps_nil)) (by rfl) (by rfl) (fun z => by cases z) (by decide)) pa_nil))))))))))), ?_⟩
    refine ⟨_, rfl, _, rfl, l, 2, rfl, hP, by decide, by decide, fun r H1 b1 P1 r0 r1 => addI ?_⟩
    obtain ⟨r', rfl⟩ := Int.eq_ofNat_of_zero_le r0
    refine ⟨l, 3 + r', rfl, by omega, P1, fun W ws H2 b2 P2 nWl nW hW lw ndp sh => ?_⟩
    have B2 := b1.trans b2
    have nW0 : H W = none := b1.non nWl nW
    have newl : ∀ x, H x = none → x ≠ l := fun x e => (hP.ne e).symm
    have lw3 : 3 ≤ ws.length := by omega
    have lw4 : ws.length ≤ 4 := by omega
    refine ⟨_, rfl, ?_⟩
    refine taken_it (ws := ws) rfl rfl hW P2 (by omega) (by omega) fun j H3 b3 P3 j1 j2 => ?_
    refine ⟨_, rfl, W, _, rfl, .inl (.inl (b3 _ _ nWl hW)), fun pT nT => ?_⟩
    have B3 := B2.trans b3
    have nT0 : H pT = none := B3.non (P3.ne nT).symm nT
    have hT : (upd H3 pT (.lst (cutV (ws.map V.str) none (some (j : Nat))))) pT = some (.lst ((ws.take j).map V.str)) := by rw [upd_same, cutV_hi, List.map_take]
    have hW4 : (upd H3 pT (.lst (cutV (ws.map V.str) none (some (j : Nat))))) W = some (.lst (ws.map V.str)) := sNew nT _ _ (b3 _ _ nWl hW)
    have B4 : But l H (upd H3 pT (.lst (cutV (ws.map V.str) none (some (j : Nat))))) := B3.trans (But.same (sNew nT) l)
    have P4 : PoolAt (upd H3 pT (.lst (cutV (ws.map V.str) none (some (j : Nat))))) l := P3.same (sNew nT)
    have nTl := (P3.ne nT).symm
    generalize upd H3 pT (.lst (cutV (ws.map V.str) none (some (j : Nat)))) = H4 at hT hW4 B4 P4
    clear b3 P3 hW b1 b2 B2 B3 P1 P2 hP nT r0 r1
    refine ⟨_, rfl, ?_⟩
    refine ⟨_, rfl, lenL (.inl (.inl hT)) ?_⟩
    refine ⟨_, rfl, W, _, rfl, .inl (.inl hW4), fun pR nR => ?_⟩
    have lt : ((ws.take j).map V.str).length = j := by rw [List.length_map, List.length_take]; omega
    have hR : (upd H4 pR (.lst (cutV (ws.map V.str) (some (((ws.take j).map V.str).length : Nat)) none))) pR = some (.lst ((ws.drop j).map V.str)) := by rw [upd_same, lt, cutV_lo, List.map_drop]
    have s5 := sNew (o := .lst (cutV (ws.map V.str) (some (((ws.take j).map V.str).length : Nat)) none)) nR
    generalize upd H4 pR (.lst (cutV (ws.map V.str) (some (((ws.take j).map V.str).length : Nat)) none)) = H5 at hR s5
    have nRl := (P4.ne nR).symm
    have hT5 := s5 _ _ hT
    have hW5 := s5 _ _ hW4
    have B5 := B4.trans (But.same s5 l)
    have P5 := P4.same s5
    clear hT hW4 s5 B4 P4 nR lt
    refine ⟨_, rfl, ?_⟩
    refine ⟨by show 0 ≤ sizeLine; decide, fun d1 n1 => ?_⟩
    have t1 := sNew (o := .lst []) n1
    have g1 : (upd H5 d1 (.lst [])) d1 = some (.lst []) := upd_same
    generalize upd H5 d1 (.lst []) = U1 at t1 g1 ⊢
    refine ⟨by show 1 ≤ sizeLine; decide, fun d2 n2 => ?_⟩
    have t2 := sNew (o := .lst [V.int 0]) n2
    have g2 : (upd U1 d2 (.lst [V.int 0])) d2 = some (.lst [V.int 0]) := upd_same
    generalize upd U1 d2 (.lst [V.int 0]) = U2 at t2 g2 ⊢
    refine ⟨by show 1 ≤ sizeLine; decide, fun d3 n3 => ?_⟩
    have t3 := sNew (o := .lst [V.int 1]) n3
    have g3 : (upd U2 d3 (.lst [V.int 1])) d3 = some (.lst [V.int 1]) := upd_same
    generalize upd U2 d3 (.lst [V.int 1]) = U3 at t3 g3 ⊢
    refine ⟨by show 2 ≤ sizeLine; decide, fun d4 n4 => ?_⟩
    have t4 := sNew (o := .lst [V.int 0, V.int 1]) n4
    have g4 : (upd U3 d4 (.lst [V.int 0, V.int 1])) d4 = some (.lst [V.int 0, V.int 1]) := upd_same
    generalize upd U3 d4 (.lst [V.int 0, V.int 1]) = U4 at t4 g4 ⊢
    refine ⟨by show 2 ≤ sizeLine; decide, fun d5 n5 => ?_⟩
    have t5 := sNew (o := .lst [V.int 2, V.int 7]) n5
    have g5 : (upd U4 d5 (.lst [V.int 2, V.int 7])) d5 = some (.lst [V.int 2, V.int 7]) := upd_same
    generalize upd U4 d5 (.lst [V.int 2, V.int 7]) = U5 at t5 g5 ⊢
    refine ⟨by show 5 ≤ sizeLine; decide, fun pm nm => ?_⟩
    have t6 := sNew (o := .lst [V.ref d1, .ref d2, .ref d3, .ref d4, .ref d5]) nm
    have g6 : (upd U5 pm (.lst [V.ref d1, .ref d2, .ref d3, .ref d4, .ref d5])) pm = some (.lst [V.ref d1, .ref d2, .ref d3, .ref d4, .ref d5]) := upd_same
    generalize upd U5 pm (.lst [V.ref d1, .ref d2, .ref d3, .ref d4, .ref d5]) = U6 at t6 g6 ⊢
    have q1 := P5.same t1
    have q2 := q1.same t2
    have q3 := q2.same t3
    have q4 := q3.same t4
    have q5 := q4.same t5
    have q6 := q5.same t6
    have s6 := ((((t1.trans t2).trans t3).trans t4).trans t5).trans t6
    refine ⟨l, _, rfl, q6, .inl ⟨pm, _, rfl, (q5.ne nm).symm, .inl (.inl g6), by simp, by show 5 < 1000; decide, fun i y H6 b6 P6 hy => ?_⟩⟩
    have ng : ∀ q, q = d1 ∨ q = d2 ∨ q = d3 ∨ q = d4 ∨ q = d5 → q ≠ l := by
      rintro q (rfl | rfl | rfl | rfl | rfl)
      · exact (P5.ne n1).symm
      · exact (q1.ne n2).symm
      · exact (q2.ne n3).symm
      · exact (q3.ne n4).symm
      · exact (q4.ne n5).symm
    obtain ⟨pD, dg, rfl, hdg, hD, hq⟩ := dg_item hy (b6 _ _ (ng _ (by simp)) ((((t2.trans t3).trans t4).trans t5).trans t6 _ _ g1)) (b6 _ _ (ng _ (by simp)) (((t3.trans t4).trans t5).trans t6 _ _ g2)) (b6 _ _ (ng _ (by simp)) ((t4.trans t5).trans t6 _ _ g3)) (b6 _ _ (ng _ (by simp)) (t5.trans t6 _ _ g4)) (b6 _ _ (ng _ (by simp)) (t6 _ _ g5))
    have nDl := ng _ hq
    have bs := (But.same s6 l).trans b6
    have B6 := B5.trans bs
    have hT6 := bs _ _ nTl hT5
    have hW6 := bs _ _ nWl hW5
    have hR6 := bs _ _ nRl hR
    clear bs ng hq hy b6 s6 g1 g2 g3 g4 g5 g6 hR hW5 hT5 B5 P5 q1 q2 q3 q4 q5 q6 t1 t2 t3 t4 t5 t6 n1 n2 n3 n4 n5 nm
    refine ⟨Nat.zero_le _, fun F nF => ?_⟩
    have nFl := P6.ne nF
    have nF0 := B6.non nFl.symm nF
    refine ⟨_, rfl, ?_⟩
    have hF0 : (upd H6 F (.lst [])) F = some (.lst []) := upd_same
    have s7 := sNew (o := .lst []) nF
    have P7 := P6.same s7
    generalize upd H6 F (.lst []) = H7 at hF0 s7 P7 ⊢
    refine ⟨by show 5 ≤ sizeLine; decide, fun d1 n1 => ?_⟩
    have t1 := sNew (o := .lst [V.str "p", .str "q", .str "r", .str "s", .str "t"]) n1
    have g1 : (upd H7 d1 (.lst [V.str "p", .str "q", .str "r", .str "s", .str "t"])) d1 = some (.lst [V.str "p", .str "q", .str "r", .str "s", .str "t"]) := upd_same
    generalize upd H7 d1 (.lst [V.str "p", .str "q", .str "r", .str "s", .str "t"]) = U1 at t1 g1 ⊢
    refine ⟨by show 5 ≤ sizeLine; decide, fun d2 n2 => ?_⟩
    have t2 := sNew (o := .lst [V.str "t", .str "s", .str "r", .str "q", .str "p"]) n2
    have g2 : (upd U1 d2 (.lst [V.str "t", .str "s", .str "r", .str "q", .str "p"])) d2 = some (.lst [V.str "t", .str "s", .str "r", .str "q", .str "p"]) := upd_same
    generalize upd U1 d2 (.lst [V.str "t", .str "s", .str "r", .str "q", .str "p"]) = U2 at t2 g2 ⊢
    refine ⟨by show 2 ≤ sizeLine; decide, fun d3 n3 => ?_⟩
    have t3 := sNew (o := .lst [V.ref d1, .ref d2]) n3
    have g3 : (upd U2 d3 (.lst [V.ref d1, .ref d2])) d3 = some (.lst [V.ref d1, .ref d2]) := upd_same
    generalize upd U2 d3 (.lst [V.ref d1, .ref d2]) = U3 at t3 g3 ⊢
    have q1 := P7.same t1
    have q2 := q1.same t2
    have q3 := q2.same t3
    have s8 := (t1.trans t2).trans t3
    refine ⟨l, _, rfl, q3, .inl ⟨d3, _, rfl, (q2.ne n3).symm, .inl (.inl g3), by simp, by show 2 < 1000; decide, fun i y H8 b8 P8 hy => ?_⟩⟩
    have ng : ∀ q, q = d1 ∨ q = d2 → q ≠ l := by
      rintro q (rfl | rfl)
      · exact (P7.ne n1).symm
      · exact (q1.ne n2).symm
    obtain ⟨pS, tt, rfl, htt, hS, hq⟩ := tt_item hy (b8 _ _ (ng _ (by simp)) (t2.trans t3 _ _ g1)) (b8 _ _ (ng _ (by simp)) (t3 _ _ g2))
    have nSl := ng _ hq
    have hF8 := b8 _ _ nFl.symm (s8 _ _ hF0)
    have B8 : But l H6 H8 := (But.same (s7.trans s8) l).trans b8
    clear ng hq hy b8 s7 s8 g1 g2 g3 q1 q2 q3 t1 t2 t3 n1 n2 n3 hF0 P7
    refine ⟨_, rfl, ?_⟩
    refine ⟨_, rfl, _, rfl, l, _, rfl, P8, by omega, by omega, fun r H9 b9 P9 r0 r1 => addI ?_⟩
    obtain ⟨c, rfl⟩ := Int.eq_ofNat_of_zero_le r0
    refine ⟨_, rfl, pS, _, rfl, .inl (.inl (b9 _ _ nSl hS)), fun pL nL => ?_⟩
    have t5 := tt_len htt
    have eL : cutV (tt.map V.str) none (some (1 + ((c : Nat) : Int))) = (tt.take (c + 1)).map V.str := by
      rw [show 1 + ((c : Nat) : Int) = ((c + 1 : Nat) : Int) by omega, cutV_hi, List.map_take]
    have hc : c + 1 ≤ mp := by omega
    have nLl := (P9.ne nL).symm
    have hF9 := b9 _ _ nFl.symm hF8
    have nLF : pL ≠ F := (ne_of_none hF9 nL).symm
    refine ⟨pL, rfl, ⟨_, .inl (.inl upd_same)⟩, ?_⟩
    refine for_it (walk_list (xs := (tt.take (c + 1)).map V.str)) (fun m σ H' => ∃ (o10 o11 o12 : Option V) (us : List V) (es : List Ent), σ = [some (.ref l), some (.int (mp : Nat)), some (.int (md : Nat)), some (.int (n : Nat)), some (.ref W), some (.ref pT), some (.ref pR), some (.ref pD), some (.ref F), some (.ref pS), o10, o11, o12] ∧
      But l H6 H' ∧ PoolAt H' l ∧ H' F = some (.lst us) ∧ H' pL = some (.lst ((tt.take (c + 1)).map V.str)) ∧ EntTups (fun x => H x = none ∧ x ≠ F) K H' us es ∧ us.length = m ∧ es.map (·.1) = tt.take m ∧ ∀ e ∈ es, EOk (ws.drop j) ws dg md n e) ⟨none, none, none, [], [], rfl, (B8.trans b9).trans (But.same (sNew nL) l), P9.same (sNew nL), sNew nL _ _ hF9, by rw [upd_same, eL], .nil, rfl, rfl, fun e he => nomatch he⟩
      (fun _ _ _ _ ⟨_, _, _, _, _, _, _, _, _, h, _⟩ => .inl (.inl h)) ?_ ?_
    · rintro m x σ H1 H1' hm ⟨o10, o11, o12, us, es, rfl, b, PP, hF, hL, en, ln, tn, ok⟩ ⟨rfl, hx⟩
      obtain ⟨z, hz, rfl⟩ := map_at hx
      have hm' : m < c + 1 := by
        have := (List.getElem?_eq_some_iff.mp hz).1
        rw [List.length_take] at this
        omega
      have hzt : tt[m]? = some z := by
        rw [List.getElem?_take_of_lt hm'] at hz
        exact hz
      refine ⟨_, rfl, _, rfl, l, W, _, rfl, PP, nWl, .inl (.inl (b _ _ nWl hW6)), by rw [List.length_map]; omega, fun pz ys HA bA PA nz hA pm => ?_⟩
      obtain ⟨zs, rfl, hpz⟩ := perm_strs pm
      have nzl : pz ≠ l := (PP.ne nz).symm
      refine ⟨_, rfl, l, 2, rfl, PA, by decide, by decide, fun r HB bB PB r0 r1 => addI ?_⟩
      obtain ⟨e, rfl⟩ := Int.eq_ofNat_of_zero_le r0
      refine ⟨_, rfl, pz, _, rfl, .inl (.inl (bB _ _ nzl hA)), fun pw npw => ?_⟩
      have eW : cutV (zs.map V.str) none (some (1 + ((e : Nat) : Int))) = (zs.take (e + 1)).map V.str := by
        rw [show 1 + ((e : Nat) : Int) = ((e + 1 : Nat) : Int) by omega, cutV_hi, List.map_take]
      rw [eW]
      have hpw : (upd HB pw (.lst ((zs.take (e + 1)).map V.str))) pw = some (.lst ((zs.take (e + 1)).map V.str)) := upd_same
      have sC := sNew (o := .lst ((zs.take (e + 1)).map V.str)) npw
      have bC : But l H1' (upd HB pw (.lst ((zs.take (e + 1)).map V.str))) := (bA.trans bB).trans (But.same sC l)
      have PC := PB.same sC
      have npl : pw ≠ l := (PB.ne npw).symm
      have npw1 : H1' pw = none := (bA.trans bB).non npl npw
      generalize upd HB pw (.lst ((zs.take (e + 1)).map V.str)) = HC at hpw bC PC ⊢
      clear sC npw PB bB r0 bA PA hA
      have bHC := b.trans bC
      refine ⟨_, rfl, _, rfl, _, rfl, _, rfl, _, rfl, _, rfl, l, pR, W, pD, ws.drop j, ws, dg, md, rfl, PC, nRl, nWl, nDl, bHC _ _ nRl hR6, bHC _ _ nWl hW6, bHC _ _ nDl hD, ?_, ?_, ?_, by omega, (dg_small hdg).2, fun y hy => (sh y hy).word, (dg_small hdg).1, one, md1, md2, fun pd us' ds HD bD PD npd hpd dts l1 l2 dok => ?_⟩
      · intro e
        have := congrArg List.length e
        rw [List.length_drop] at this
        have : (0 : Nat) = ([] : List Str).length := rfl
        omega
      · rw [List.length_drop]
        omega
      · intro e
        rw [e] at j2
        exact absurd j2 (by show ¬ j + 2 ≤ 0; omega)
      have hF2 := bD _ _ nFl.symm (bC _ _ nFl.symm hF)
      have ndl : pd ≠ l := (PC.ne npd).symm
      have npd1 : H1' pd = none := bC.non ndl npd
      refine ⟨_, rfl, .inl ⟨rfl, _, .inl (.inl hF2)⟩, _, rfl, _, rfl, _, rfl, by show 3 ≤ sizeLine; decide, fun q nq => ?_⟩
      have sq := sNew (o := .tup [V.str z, .ref pw, .ref pd]) nq
      have hq : (upd HD q (.tup [V.str z, .ref pw, .ref pd])) q = some (.tup [V.str z, .ref pw, .ref pd]) := upd_same
      have PQ := PD.same sq
      generalize upd HD q (.tup [V.str z, .ref pw, .ref pd]) = HE at sq hq PQ ⊢
      have hF3 := sq _ _ hF2
      refine ⟨F, us, _, rfl, rfl, hF3, by have := sl1k; omega, ?_⟩
      have nwF : pw ≠ F := (ne_of_none hF npw1).symm
      have ndF : pd ≠ F := (ne_of_none hF npd1).symm
      have nqF : q ≠ F := (ne_of_none hF2 nq).symm
      have bAll : But l H1' HE := (bC.trans bD).trans (But.same sq l)
      have tk1 : TK H1' HE := PP.tk bAll
      have tk2 : TK HE (upd HE F (.lst (us ++ [V.ref q]))) := TK.lst hF3
      refine ⟨_, _, _, us ++ [.ref q], es ++ [(z, zs.take (e + 1), ds)], rfl, But.fr nF (b.trans bAll), PQ.upd nFl, upd_same, by rw [upd_ne nLF]; exact bAll _ _ nLl hL, All2.snoc (en.to (tk1.trans tk2) fun x o nx hx => ?_) ⟨q, pw, pd, us', rfl, ?_, ?_, ?_, dts.tk ((TK.of sq).trans tk2), ⟨?_, nwF⟩, ?_, ndF⟩, by rw [List.length_append, ln]; rfl, ?_, snoc_all ok ⟨?_, ?_, ?_, ?_, l1, l2, dok⟩⟩
      · rw [upd_ne nx.2]
        exact bAll _ _ (newl x nx.1) hx
      · rw [upd_ne nqF]
        exact hq
      · rw [upd_ne nwF]
        exact sq _ _ (bD _ _ npl hpw)
      · rw [upd_ne ndF]
        exact sq _ _ hpd
      · exact (B6.trans b).non npl npw1
      · exact (B6.trans b).non ndl npd1
      · rw [List.map_append, tn, show tt.take (m + 1) = tt.take m ++ [z] by rw [List.take_succ, hzt]; rfl]
        rfl
      · exact (hpz.nodup_iff.mpr ndp).sublist (List.take_sublist _ _)
      · exact fun y hy => hpz.mem_iff.mp (List.mem_of_mem_take hy)
      · have := hpz.length_eq
        show 1 ≤ (zs.take (e + 1)).length
        rw [List.length_take]
        omega
      · show (zs.take (e + 1)).length ≤ 2
        rw [List.length_take]
        omega
    · rintro σ H1 ⟨o10, o11, o12, us, es, rfl, b, PP, hF, hL, en, ln, tn, ok⟩
      have lz : ((tt.take (c + 1)).map V.str).length = c + 1 := by
        rw [List.length_map, List.length_take]
        omega
      have ln : us.length = ((tt.take (c + 1)).map V.str).length := ln
      have tn : es.map (·.1) = tt.take ((tt.take (c + 1)).map V.str).length := tn
      rw [lz] at ln tn
      have le := en.length
      refine fun d0 nd0 => ?_
      refine ⟨_, rfl, _, rfl, upd_same, dictPI (.ref F) (.ref pT), rfl, by show 2 ≤ 15; decide, ?_⟩
      rw [mergePI]
      have sd : Same H1 (upd (upd H1 d0 (.dK [])) d0 (.dK (dictPI (.ref F) (.ref pT)))) := sUpd nd0 (sNew nd0)
      have hd0 : (upd (upd H1 d0 (.dK [])) d0 (.dK (dictPI (.ref F) (.ref pT)))) d0 = some (.dK (dictPI (.ref F) (.ref pT))) := upd_same
      generalize upd (upd H1 d0 (.dK [])) d0 (.dK (dictPI (.ref F) (.ref pT))) = HX at sd hd0 ⊢
      have bX : But l H HX := (B6.trans b).trans (But.same sd l)
      have PX := PP.same sd
      have nw : ∀ x, HX x = none → H x = none := fun x e => bX.non (PX.ne e).symm e
      refine ⟨d0, F, .ref pT, us, es, fun x => H x = none ∧ x ≠ F, rfl, hd0, sd _ _ hF, EntTups.same sd en, by omega, fun e he => ?_, fun d' F' us' HY sY n1 n2 h1 h2 en' => ?_⟩
      · have := (ok e he).2.2.2.2.2.1
        omega
      · exact k d' F' pT us' (lessOnce es) (ws.take j) HY (bX.trans (But.same sY l)) (PX.same sY) (nw _ n1) (nw _ n2) nT0 h1 h2 (sY _ _ (sd _ _ (b _ _ nTl hT6))) (en'.imp fun _ _ h => h.imp fun x hx => hx.elim (·.1) (nw x))
          ⟨ws, j, dg, tt, es, ndp, sh, lw3, lw4, j1, j2, rfl, hdg, htt, rfl, by omega, by omega, by rw [tn, ← le, ln], ok⟩
end
end Z
set_option maxRecDepth 100000
set_option maxHeartbeats 4000000
set_option pp.maxSteps 600
namespace Z
open PySem PySem.Spec PyProof.Rows L2
def DLike (d d' : DD) : Prop := d'.1 = d.1 ∧ d'.2.1 = d.2.1
def ELike (e e' : Ent) : Prop := e'.1 = e.1 ∧ e'.2.1 = e.2.1 ∧ All2 DLike e.2.2 e'.2.2
theorem lessStep_like : ∀ (ds : List DD) (s : Int × List DD), ∃ out, (ds.foldl lessStep s).2 = s.2 ++ out ∧ All2 DLike ds out
  | [], s => ⟨[], by rw [List.append_nil]; rfl, .nil⟩
  | d :: r, s => by
    obtain ⟨out, h1, h2⟩ := lessStep_like r (lessStep s d)
    refine ⟨(d.1, d.2.1, d.2.2 || decide (s.1 - (if !d.2.2 then 1 else 0) < 0)) :: out, ?_, .cons ⟨rfl, rfl⟩ h2⟩
    show (r.foldl lessStep (lessStep s d)).2 = _
    rw [h1]
    show (s.2 ++ [_]) ++ out = _
    rw [List.append_assoc]
    rfl
theorem lessEnt_like : ∀ (es : List Ent) (s : Int × List Ent), ∃ out, (es.foldl lessEnt s).2 = s.2 ++ out ∧ All2 ELike es out
  | [], s => ⟨[], by rw [List.append_nil]; rfl, .nil⟩
  | e :: r, s => by
    obtain ⟨out, h1, h2⟩ := lessEnt_like r (lessEnt s e)
    obtain ⟨o2, g1, g2⟩ := lessStep_like e.2.2 (s.1, [])
    refine ⟨(e.1, e.2.1, (e.2.2.foldl lessStep (s.1, [])).2) :: out, ?_, .cons ⟨rfl, rfl, ?_⟩ h2⟩
    · show (r.foldl lessEnt (lessEnt s e)).2 = _
      rw [h1]
      show (s.2 ++ [_]) ++ out = _
      rw [List.append_assoc]
      rfl
    · show All2 DLike e.2.2 (e.2.2.foldl lessStep (s.1, [])).2
      rw [g1]
      exact g2
theorem lessOnce_like (es : List Ent) : All2 ELike es (lessOnce es) := by
  obtain ⟨out, h1, h2⟩ := lessEnt_like es (8, [])
  unfold lessOnce
  rw [h1]
  exact h2
theorem All2.memR {α β : Type} {R : α → β → Prop} {xs : List α} {ys : List β} (h : All2 R xs ys) {y : β} (hy : y ∈ ys) : ∃ x ∈ xs, R x y := by
  obtain ⟨i, hi⟩ := List.mem_iff_getElem?.mp hy
  obtain ⟨x, hx, r⟩ := h.get' hi
  exact ⟨x, List.mem_of_getElem? hx, r⟩
theorem EOk.like {wr ws : List Str} {dg : List Int} {md n : Nat} {e e' : Ent} (l : ELike e e') (h : EOk wr ws dg md n e) : EOk wr ws dg md n e' := by
  obtain ⟨l1, l2, l3⟩ := l
  obtain ⟨h1, h2, h3, h4, h5, h6, h7⟩ := h
  unfold EOk
  rw [l2, ← l3.length]
  refine ⟨h1, h2, h3, h4, h5, h6, fun d hd => ?_⟩
  obtain ⟨d0, m0, a1, a2⟩ := l3.memR hd
  have := h7 d0 m0
  unfold DOk at this ⊢
  rw [a1, a2]
  exact this
theorem PlainFine.ents {mp md n : Nat} {es : List Ent} {ins : List Str} (h : PlainFine mp md n es ins) : ∃ (ws : List Str) (j : Nat) (dg : List Int) (tt : List Str), ws.Nodup ∧ (∀ y ∈ ws, Short y) ∧ 3 ≤ ws.length ∧ ws.length ≤ 4 ∧ 1 ≤ j ∧ j + 2 ≤ ws.length ∧ ins = ws.take j ∧ dg ∈ dgMenu ∧ tt ∈ ttMenu ∧
    1 ≤ es.length ∧ es.length ≤ mp ∧ es.map (·.1) = tt.take es.length ∧ ∀ e ∈ es, EOk (ws.drop j) ws dg md n e := by
  obtain ⟨ws, j, dg, tt, e0, h1, h2, h3, h4, h5, h6, h7, h8, h9, rfl, a1, a2, a3, a4⟩ := h
  have lk := lessOnce_like e0
  refine ⟨ws, j, dg, tt, h1, h2, h3, h4, h5, h6, h7, h8, h9, by rw [← lk.length]; exact a1, by rw [← lk.length]; exact a2, ?_, fun e he => ?_⟩
  · rw [← lk.length, ← a3]
    refine List.ext_getElem? fun i => ?_
    rw [List.getElem?_map, List.getElem?_map]
    cases e1 : e0[i]? with
    | none =>
      have := List.getElem?_eq_none_iff.mp e1
      rw [List.getElem?_eq_none_iff.mpr (by rw [← lk.length]; exact this)]
    | some x =>
      obtain ⟨y, hy, r⟩ := lk.get e1
      rw [hy]
      show some y.1 = some x.1
      rw [r.1]
  · obtain ⟨x, hx, r⟩ := lk.memR he
    exact (a4 x hx).like r
section
variable {P : Program} {w : World} {K : PySem.W.Frag} {mg : Str → Option Value} {base : Heap} {a : Ad}
theorem sg_len (b : Bool) : (sgOf b).length = 4 := by cases b <;> decide +kernel
def spDText (K : PySem.W.Frag) : Sp := fun vs H Q _ => ∃ v d, vs = [v] ∧ DTup K H v d ∧ Word d.1 ∧ d.2.1.Ok ∧ d.2.1.deep ≤ 3 ∧ ∀ H', Same H H' → Q (.str (dtext d.1 d.2.1 d.2.2)) H'
theorem ok_dtext (T : Tx P K mg a) : FnOk P w K mg base CX0 5 a.f__law_deed_text a.d__law_deed_text ["deed"] (spDText K) := by
  have F1 : FnOk P w K mg base CX0 4 a.f__law_tree_text a.d__law_tree_text ["tree"] (spText K 3) := ok_ltext T 3
  refine T._law_deed_text.fn.ok sc__law_deed_text (fun vs H Q E h => ?_) (fun cdv A outer s H vs Q E hr h => ?_)
  · obtain ⟨v, d, rfl, _⟩ := h
    rfl
  · obtain ⟨v, ⟨x, t, b⟩, rfl, ⟨p, u, rfl, h1, h2⟩, hx, ht, hd, k⟩ := h
    have h1 : SqT K H p [.str x, .bl b, u] := .inl (.inl h1)
    refine ⟨_, (pss_one (ps_ret (pe_op op_addA (pe_op op_addA (pe_ix ix_A (pv 0) pe_int (fun _ _ => rfl)) (pe_ifExp (pt_val (pe_ix ix_A (pv 0) pe_int (fun _ _ => rfl))) pe_str pe_str)) (pe_cf T._law_tree_text F1 hr (pa_cons (pe_ix ix_A (pv 0) pe_int (fun _ _ => rfl)) pa_nil))))), ?_⟩
    have lx : x.length ≤ 8 := hx.2.1
    have ht : t.Ok := ht
    have hd : t.deep ≤ 3 := hd
    have lt := text_small ht hd
    have sl := sl10
    have lg := sg_len b
    refine ⟨_, rfl, ixT (i := 0) h1 rfl ?_⟩
    refine ⟨_, rfl, ixT (i := 1) h1 rfl ⟨b, rfl, ?_⟩⟩
    have fin : ∀ sg, sg = sgOf b → rAddA K (.str x) (.str sg) H fun y H1 => tCall (spText K 3) [] E0 (tCons (tOp (rIxA K) (tVar 0) (tC (.int 2))) tNil) [some (V.ref p)] H1 fun z H2 => rAddA K y z H2 Q := by
      intro sg e
      subst e
      refine addS (by omega) ?_
      refine ⟨_, rfl, ixT (i := 2) h1 rfl ?_⟩
      refine ⟨u, t, rfl, h2, ht, hd, by decide, fun H1 s1 => addS (by rw [len_app]; omega) ?_⟩
      exact k H1 s1
    cases b with
    | true => exact fin _ rfl
    | false => exact fin _ rfl
theorem lkP {m : Str} {s : Str} {pw pd : Addr} (h1 : (m == ("title" : Str)) = false := by decide) (h2 : (m == ("waited" : Str)) = false := by decide) (h3 : (m == ("done" : Str)) = false := by decide) : (pflds s pw pd).lookup m = none := by simp [pflds, List.lookup, h1, h2, h3]
end
end Z
set_option maxRecDepth 100000
set_option maxHeartbeats 4000000
set_option pp.maxSteps 600
namespace Z
open PySem PySem.Spec PyProof.Rows L2
theorem all_nil {α : Type} {p : α → Prop} : ∀ y ∈ ([] : List α), p y := fun y h => nomatch h
theorem all_cons {α : Type} {p : α → Prop} {x : α} {xs : List α} (h : p x) (t : ∀ y ∈ xs, p y) : ∀ y ∈ x :: xs, p y := fun y hy => by
  rcases List.mem_cons.mp hy with rfl | hy
  · exact h
  · exact t y hy
theorem all_app {α : Type} {p : α → Prop} {xs ys : List α} (h : ∀ y ∈ xs, p y) (t : ∀ y ∈ ys, p y) : ∀ y ∈ xs ++ ys, p y := fun y hy => (List.mem_append.mp hy).elim (h y) (t y)
theorem k_ns : kitB "NoneType" "str" = some false := by decide +kernel
theorem k_nl : kitB "NoneType" "list" = some false := by decide +kernel
theorem k_nt : kitB "NoneType" "tuple" = some false := by decide +kernel
theorem k_is : kitB "int" "str" = some false := by decide +kernel
theorem k_bs : kitB "bool" "str" = some false := by decide +kernel
theorem k_ls : kitB "list" "str" = some false := by decide +kernel
theorem k_ts : kitB "tuple" "str" = some false := by decide +kernel
theorem k_sl : kitB "str" "list" = some false := by decide +kernel
theorem k_dl : kitB "dict" "list" = some false := by decide +kernel
theorem k_dt : kitB "dict" "tuple" = some false := by decide +kernel
section
variable {K : PySem.W.Frag} {CD CT : Addr} {H : Hp}
def NmIt (K : PySem.W.Frag) (H : Hp) (y : V) : Prop := WQ K H y (wordV y) ∧ nameB y = false
def RwIt (K : PySem.W.Frag) (H : Hp) (y : V) : Prop := ∃ wl, UWL K H y false wl
def TxIt (K : PySem.W.Frag) (CD CT : Addr) (H : Hp) (y : V) : Prop := DQ K CD CT H y none
theorem NmIt.same {H' : Hp} {y : V} (s : Same H H') (h : NmIt K H y) : NmIt K H' y := ⟨h.1.same s, h.2⟩
theorem RwIt.same {H' : Hp} {y : V} (s : Same H H') (h : RwIt K H y) : RwIt K H' y := h.imp fun _ h => h.same s
theorem TxIt.same {H' : Hp} {y : V} (s : Same H H') (h : TxIt K CD CT H y) : TxIt K CD CT H' y := DQ.same s h
theorem nm_str {z : Str} (l : z.length ≤ 100) (e : nameB (.str z) = false) : NmIt K H (.str z) := ⟨.str z (by have := sl1k; omega), e⟩
theorem wq_str {z : Str} (l : z.length ≤ 100) : WQ K H (.str z) (wordV (.str z)) := .str z (by have := sl1k; omega)
theorem wq_non : WQ K H .non (wordV .non) := .oth (.base .non) k_ns
theorem wq_lst {p : Addr} {xs : List V} (h : H p = some (.lst xs)) : WQ K H (.ref p) (wordV (.ref p)) := .oth (.base (.lst h)) k_ls
theorem wq_tup {p : Addr} {xs : List V} (h : H p = some (.tup xs)) : WQ K H (.ref p) (wordV (.ref p)) := .oth (.base (.tup h)) k_ts
theorem nm_non : NmIt K H .non := ⟨wq_non, rfl⟩
theorem nm_int {n : Int} : NmIt K H (.int n) := ⟨.oth (.base (.int n)) k_is, rfl⟩
theorem nm_bl {b : Bool} : NmIt K H (.bl b) := ⟨.oth (.base (.bl b)) k_bs, rfl⟩
theorem nm_lst {p : Addr} {xs : List V} (h : H p = some (.lst xs)) : NmIt K H (.ref p) := ⟨wq_lst h, rfl⟩
theorem nm_tup {p : Addr} {xs : List V} (h : H p = some (.tup xs)) : NmIt K H (.ref p) := ⟨wq_tup h, rfl⟩
theorem rw_non : RwIt K H .non := ⟨[], .oth (.base .non) k_nl k_nt⟩
theorem rw_str {z : Str} : RwIt K H (.str z) := ⟨[], .oth (.base (.str z)) k_sl k_st⟩
theorem rw_dct {p : Addr} {kvs : List (Key × V)} (h : H p = some (.dK kvs)) : RwIt K H (.ref p) := ⟨[], .oth (.base (.dK h)) k_dl k_dt⟩
theorem rw_seq {p : Addr} {xs : List V} (h : Seq K H p xs) (w : ∀ y ∈ xs, WQ K H y (wordV y)) (few : xs.length ≤ 100) (e : unlikeB 1 4 xs = false) : RwIt K H (.ref p) := ⟨xs.filterMap strV, by rw [← e]; exact .seq h w few⟩
def osV : V → Option DD
  | .str z => dparts z
  | _ => none
theorem tx_non : TxIt K CD CT H .non := .oth (.base .non) k_nl k_nt
theorem tx_str {z : Str} : TxIt K CD CT H (.str z) := .oth (.base (.str z)) k_sl k_st
theorem tx_dct {p : Addr} {kvs : List (Key × V)} (h : H p = some (.dK kvs)) : TxIt K CD CT H (.ref p) := .oth (.base (.dK h)) k_dl k_dt
theorem iq_str {z : Str} (l : z.length ≤ 200) : IQ K CD CT H (.str z) (osV (.str z)) := .txt z (by have := sl1k; omega)
theorem dq_seq {p : Addr} {xs : List V} {r : Option (List DD)} (h : Seq K H p xs) (it : ∀ y ∈ xs, IQ K CD CT H y (osV y)) (e : (if 1 ≤ xs.length ∧ xs.length ≤ 4 then allS (fun i => (xs[i]?).bind osV) xs.length else none) = r) : DQ K CD CT H (.ref p) r := by
  subst e
  refine .seq h _ fun i y hy => ?_
  show IQ K CD CT H y ((xs[i]?).bind osV)
  rw [hy]
  exact it y (List.mem_of_getElem? hy)
theorem allS_texts {ds : List DD} (ok : ∀ d ∈ ds, Word d.1 ∧ d.2.1.Ok ∧ d.2.1.deep ≤ 3) : ∀ n, n ≤ ds.length → allS (fun i => ((ds.map fun d => V.str (dtext d.1 d.2.1 d.2.2))[i]?).bind osV) n = some (ds.take n)
  | 0, _ => rfl
  | n + 1, h => by
    have hn : n < ds.length := h
    obtain ⟨o1, o2, o3⟩ := ok ds[n] (List.getElem_mem hn)
    unfold allS
    rw [allS_texts ok n (Nat.le_of_lt hn), List.getElem?_map, List.getElem?_eq_getElem hn]
    show (match some (ds.take n), dparts (dtext ds[n].1 ds[n].2.1 ds[n].2.2) with | some l, some d => some (l ++ [d]) | _, _ => none) = _
    rw [dparts_text o1 o2 o3]
    show some (ds.take n ++ [ds[n]]) = _
    rw [List.take_succ, List.getElem?_eq_getElem hn]
    rfl
theorem dtext_small {d : DD} (o1 : Word d.1) (o2 : d.2.1.Ok) (o3 : d.2.1.deep ≤ 3) : (dtext d.1 d.2.1 d.2.2).length ≤ 200 := by
  have := text_small o2 o3
  have := o1.2.1
  have := sg_len d.2.2
  unfold dtext
  rw [len_app, len_app]
  omega
theorem dq_texts {p : Addr} {ds : List DD} (h : Seq K H p (ds.map fun d => V.str (dtext d.1 d.2.1 d.2.2))) (ok : ∀ d ∈ ds, Word d.1 ∧ d.2.1.Ok ∧ d.2.1.deep ≤ 3) (l1 : 1 ≤ ds.length) (l4 : ds.length ≤ 4) : DQ K CD CT H (.ref p) (some ds) := by
  refine dq_seq h (fun y hy => ?_) ?_
  · obtain ⟨d, hd, rfl⟩ := List.mem_map.mp hy
    obtain ⟨o1, o2, o3⟩ := ok d hd
    exact iq_str (dtext_small o1 o2 o3)
  · rw [List.length_map, if_pos ⟨l1, l4⟩, allS_texts ok _ (Nat.le_refl _), List.take_length]
theorem unlike_strs {ws : List Str} (nd : ws.Nodup) (hw : ∀ y ∈ ws, Word y) (l1 : 1 ≤ ws.length) (l4 : ws.length ≤ 4) : unlikeB 1 4 (ws.map V.str) = true := by
  unfold unlikeB
  rw [sv_str, List.length_map, decide_eq_true (show (1 : Int) ≤ (ws.length : Int) by omega), decide_eq_true (show (ws.length : Int) ≤ 4 by omega), decide_eq_true nd, Bool.true_and, Bool.true_and, Bool.and_true, List.all_map, List.all_eq_true]
  intro y hy
  exact wordB_iff.mpr (hw y hy)
theorem uwl_strs {p : Addr} {ws : List Str} (h : Seq K H p (ws.map V.str)) (nd : ws.Nodup) (hw : ∀ y ∈ ws, Word y) (l1 : 1 ≤ ws.length) (l4 : ws.length ≤ 4) : UWL K H (.ref p) true ws := by
  have e := unlike_strs nd hw l1 l4
  have : UWL K H (.ref p) (unlikeB 1 4 (ws.map V.str)) ((ws.map V.str).filterMap strV) := .seq h (fun y hy => by
    obtain ⟨z, hz, rfl⟩ := List.mem_map.mp hy
    exact .str z (by have := (hw z hz).2.1; have := sl1k; omega)) (by rw [List.length_map]; omega)
  rw [e, sv_str] at this
  exact this
def strsD (l : List Str) : PyData := .list (l.map PyData.str)
def toldOk (wl : List Str) : PyData := .list [.str "process", strsD wl]
def toldNo (part : Str) : PyData := .list [.str "none", .str part, .bool true]
theorem dpa_strs : ∀ l : List Str, DpAll K H (l.map V.str) (l.map PyData.str)
  | [] => .nil
  | z :: r => .cons (.str z) (dpa_strs r)
theorem dp_strs {p : Addr} {l : List Str} (h : H p = some (.lst (l.map V.str))) : Dp K H (.ref p) (strsD l) := .lst (.inl (.inl h)) (dpa_strs l)
theorem dp_ok {p q : Addr} {l : List Str} (h : H p = some (.lst [.str "process", .ref q])) (hq : H q = some (.lst (l.map V.str))) : Dp K H (.ref p) (toldOk l) := .lst (.inl (.inl h)) (.cons (.str _) (.cons (dp_strs hq) .nil))
theorem dp_no {p : Addr} {part : Str} (h : H p = some (.lst [.str "none", .str part, .bl true])) : Dp K H (.ref p) (toldNo part) := .lst (.inl (.inl h)) (.cons (.str _) (.cons (.str _) (.cons (.bl true) .nil)))
theorem lay_strs : ∀ {l : List Str}, (∀ y ∈ l, PyData.strOk y = true) → PyData.canLayAll0 (l.map PyData.str) = true
  | [], _ => by simp [PyData.canLayAll0]
  | z :: r, h => by
    have h1 := h z List.mem_cons_self
    have h2 := lay_strs fun y hy => h y (List.mem_cons_of_mem _ hy)
    simp [PyData.canLayAll0, PyData.canLay0, h1, h2]
theorem depth_strs : ∀ l : List Str, PyData.depthAll (l.map PyData.str) ≤ 1
  | [] => by simp [PyData.depthAll]
  | z :: r => by
    have := depth_strs r
    simp only [List.map_cons, PyData.depthAll, PyData.depth]
    omega
theorem neDp {x y : V} {d : PyData} {Q : VK} (h1 : Dp K H x d) (h2 : Dp K H y d) (hs : SeqAt.shaped d = true) (q : Q (.bl false) H) : rNeX K x y H Q := by
  have hl : d.canLay0 = true := (Bool.and_eq_true_iff.mp hs).1
  refine ⟨.inr (.inr ⟨d, d, h1, h2, hs, hs, ?_⟩)⟩
  rw [SeqAt.eqv_refl d hl]
  exact q
theorem shaped_ok {l : List Str} (h : ∀ y ∈ l, PyData.strOk y = true) : SeqAt.shaped (toldOk l) = true := by
  have h1 := lay_strs h
  have h2 := depth_strs l
  have h3 : PyData.strOk ("process" : Str) = true := by decide +kernel
  unfold SeqAt.shaped toldOk strsD
  rw [Bool.and_eq_true_iff]
  constructor
  · simp [PyData.canLay0, PyData.canLayAll0, h1, h3]
  · refine decide_eq_true ?_
    simp only [PyData.depth, PyData.depthAll]
    omega
theorem shaped_strs {l : List Str} (h : ∀ y ∈ l, PyData.strOk y = true) : SeqAt.shaped (strsD l) = true := by
  have h1 := lay_strs h
  have h2 := depth_strs l
  unfold SeqAt.shaped strsD
  rw [Bool.and_eq_true_iff]
  constructor
  · simp [PyData.canLay0, h1]
  · refine decide_eq_true ?_
    simp only [PyData.depth]
    omega
theorem shaped_no {part : Str} (h : PyData.strOk part = true) : SeqAt.shaped (toldNo part) = true := by
  have h3 : PyData.strOk ("none" : Str) = true := by decide +kernel
  unfold SeqAt.shaped toldNo
  rw [Bool.and_eq_true_iff]
  constructor
  · simp [PyData.canLay0, PyData.canLayAll0, h, h3]
  · refine decide_eq_true ?_
    simp only [PyData.depth, PyData.depthAll]
    omega
theorem tt_names {tt : List Str} (h : tt ∈ ttMenu) : ∀ z ∈ tt, nameB (.str z) = true ∧ z.length ≤ 8 := by
  have k : ∀ z ∈ (["p", "q", "r", "s", "t"] : List Str), nameB (.str z) = true ∧ z.length ≤ 8 := by decide +kernel
  have k2 : ∀ z ∈ (["t", "s", "r", "q", "p"] : List Str), nameB (.str z) = true ∧ z.length ≤ 8 := by decide +kernel
  simp only [ttMenu, List.mem_cons, List.not_mem_nil, or_false] at h
  rcases h with rfl | rfl
  · exact k
  · exact k2
theorem ls_x : ls ("x" : Str) = [120] := by decide +kernel
theorem nameB_x {z : Str} (h : Short z) : nameB (.str (z ++ "x")) = true ∧ (z ++ "x").length ≤ 8 := by
  obtain ⟨h1, h2, h3⟩ := h
  have hl : (ls (z ++ "x")).length = z.length + 1 := by
    rw [ls_app, List.length_append, ls_len, ls_x]
    rfl
  have hw : wordB (ls (z ++ "x")) = true := by
    unfold wordB
    rw [hl, decide_eq_true (show 1 ≤ z.length + 1 by omega), decide_eq_true (show z.length + 1 ≤ 8 by omega), ls_app, ls_x, List.all_append, List.all_eq_true.mpr h3]
    rfl
  refine ⟨?_, by rw [← ls_len, hl]; omega⟩
  show (wordB (ls (z ++ "x")) && !decide (z ++ "x" = ("turn" : Str))) = true
  rw [hw, Bool.true_and, decide_eq_false]
  · rfl
  · intro e
    have e := congrArg ls e
    rw [ls_app, ls_x, turn_ls] at e
    have := congrArg List.getLast? e
    rw [List.getLast?_append] at this
    cases this
end
end Z
set_option maxRecDepth 100000
set_option maxHeartbeats 4000000
set_option pp.maxSteps 500
namespace Z
open PySem PySem.Spec PyProof.Rows L2
theorem it_by {J : It} {n : Nat} {G : Hp → Prop} {Y : Nat → Hp → V → Hp → Prop} (w : Walk J n G Y) {B : V → Hp → (Hp → Prop) → Prop} {Qd : Hp → Prop} {H0 : Hp} (Pv : Nat → Hp → Prop) (h0 : Pv 0 H0) (hG : ∀ i H, i ≤ n → Pv i H → G H)
    (hs : ∀ i x H H', i < n → Pv i H → Y i H x H' → B x H' (Pv (i + 1))) (hd : ∀ H, Pv n H → Qd H) :
    ∃ W : Nat → Nat → Hp → Prop, (∃ m, W 0 m H0) ∧ ∀ i m H, W i m H → (J.stop i H ∧ Qd H) ∨ (J.go i H ∧ ∃ Nx : Hp → Prop, (∀ H', Nx H' → ∃ m', m' < m ∧ W (i + 1) m' H') ∧ ∀ x H', J.yld i H x H' → B x H' Nx) := by
  refine ⟨fun i m H => m = n - i ∧ i ≤ n ∧ Pv i H, ⟨n, by simp, Nat.zero_le _, h0⟩, ?_⟩
  rintro i m H ⟨rfl, hi, p⟩
  have q := hG i H hi p
  by_cases hlt : i < n
  · exact .inr ⟨w.goes i H hlt q, Pv (i + 1), fun H' p' => ⟨n - (i + 1), by omega, rfl, hlt, p'⟩, fun x H' y => hs i x H H' hlt p (w.yields i H x H' hlt q y)⟩
  · have e : i = n := by omega
    subst e
    exact .inl ⟨w.stops H q, hd H p⟩
theorem pi_listA {X : Cx} {K : PySem.W.Frag} {tg l : Expr} {tl : TE} (h : PE X l tl) (hk : X.K = K := by rfl) : PI X tg l (iList K tl) := by
  subst hk
  exact pi_list h
theorem pg_tupK {X : Cx} {es : List Expr} {k n : Nat} {t : TGs} {pos : Pos} {K : PySem.W.Frag} (hc : X.calm = true) (h : PGs X es t) (hk : X.K = K := by rfl)
    (hn : (assignEach es X.env).length = n := by rfl) (hst : (assignEach es X.env).findIdx? (·.1) = none := by rfl) : PG X (.Tuple es k pos) (gTup K n t) := by
  subst hk
  exact pg_tup hc h hn hst
theorem flat_snoc {α β : Type} {f : α → List β} {xs : List α} {i : Nat} {x : α} (h : xs[i]? = some x) : ((xs.take (i + 1)).map f).flatten = ((xs.take i).map f).flatten ++ f x := by
  rw [List.take_succ, h]
  simp
theorem flat_len {α β : Type} {f : α → List β} {xs : List α} {m : Nat} (h : ∀ x ∈ xs, (f x).length ≤ m) : ((xs.map f).flatten).length ≤ m * xs.length := by
  induction xs with
  | nil => simp
  | cons x r ih =>
    have h1 := h x List.mem_cons_self
    have h2 := ih fun y hy => h y (List.mem_cons_of_mem _ hy)
    simp only [List.map_cons, List.flatten_cons, List.length_append, List.length_cons, Nat.mul_add, Nat.mul_one]
    omega
theorem take_snoc {α : Type} {xs : List α} {i : Nat} {x : α} (h : xs[i]? = some x) : xs.take (i + 1) = xs.take i ++ [x] := by
  rw [List.take_succ, h]
  rfl
def dWrites (ds : List DD) : List Str := ascS (ds.map (·.1))
def dReads (ds : List DD) : List Str := ascS ((ds.map fun d => ascS d.2.1.ws).flatten)
def dConsts (ds : List DD) : List Int := ascI ((ds.map fun d => ascI d.2.1.ns).flatten)
def eVars (e : Ent) : List Str := ascS (e.2.1 ++ dReads e.2.2 ++ dWrites e.2.2)
def PFine (ds : List DD) : Prop := ds.length ≤ 4 ∧ ∀ d ∈ ds, d.2.1.deep ≤ 3 ∧ (ascS d.2.1.ws).length ≤ 10 ∧ (ascI d.2.1.ns).length ≤ 10
theorem DeedsAt.at {K : PySem.W.Frag} {CD CT : Addr} {H : Hp} {qs : List Addr} {ds : List DD} (h : DeedsAt K CD CT H qs ds) {j : Nat} {x : V} (hx : (qs.map V.ref)[j]? = some x) : ∃ q d, x = .ref q ∧ ds[j]? = some d ∧ DeedAt K CD CT H q d.1 d.2.1 d.2.2 := by
  obtain ⟨q, hq, rfl⟩ := map_at hx
  have hj := (List.getElem?_eq_some_iff.mp hq).1
  have hd := List.getElem?_eq_getElem (l := ds) (i := j) (by rw [← h.1]; exact hj)
  exact ⟨q, _, rfl, hd, h.2 j q _ hq hd⟩
section
variable {P : Program} {w : World} {K : PySem.W.Frag} {mg : Str → Option Value} {base : Heap} {a : Ad}
def spPWrites (K : PySem.W.Frag) (CP CD CT : Addr) : Sp := fun vs H Q _ => ∃ p s wl dl, vs = [.ref p] ∧ ProcAt K CP CD CT H p s wl dl ∧ dl.length < 64 ∧ ∀ q H', Same H H' → H q = none → H' q = some (.lst ((dWrites dl).map V.str)) → Q (.ref q) H'
theorem ok_pwrites (T : Tx P K mg a) : FnOk P w K mg base CX0 3 a.f_Process_writes a.d_Process_writes ["self"] (spPWrites K a.C_Process a.C_Deed a.C_Term) := by
  have F1 : FnOk P w K mg base CX0 1 a.f_Deed_variable a.d_Deed_variable ["self"] (spDVar K a.C_Deed a.C_Term) := ok_dvar T
  have F2 : FnOk P w K mg base CX0 1 a.f_ascending_words a.d_ascending_words ["words"] (spAscW K) := ok_ascW T
  refine T.Process_writes.ok sc_Process_writes (fun vs H Q E h => ?_) (fun cdv A outer s H vs Q E hr h => ?_)
  · obtain ⟨p, s, wl, dl, rfl, _⟩ := h
    rfl
  · obtain ⟨p, s, wl, dl, rfl, ⟨dx, pw, pd, qs, h1, h2, h3, h4⟩, few, k⟩ := h
    have nd := sc_Process_writes.nd
    have hr2 : Room 2 _ := hr
    refine ⟨_, (pss_one (ps_ret (pe_cf T.ascending_words F2 (hr.mono (by decide)) (pa_cons (pe_lc (own := [("deed", 1)]) (by rfl) nd (pi_list (pe_fld (pv 0) rfl)) (blkOk_by (own := [("deed", 1)]) (N := ["self", "deed"]) (sc := defScope s_Process_writes) (by decide +kernel)) (fun _ _ _ _ _ => (pg_name (i := 1) nd rfl (Or.inl rfl))) (fun _ _ _ _ _ => pts_nil) (fun _ _ _ _ _ => (pe_prop (pv 1) T.c_Deed T.p_Deed_variable F1 hr2 T.b_Deed_variable .nil pass0 rfl))) pa_nil)))), ?_⟩
    refine ⟨_, rfl, p, _, dx, _, _, rfl, h1, T.c_Process, T.no_Process_done, rfl, pd, rfl, ⟨_, .inl (.inl h3)⟩, fun D nD => ?_⟩
    refine lc_it (walk_list (xs := qs.map V.ref)) (fun i H' => H' D = some (.lst (((dl.take i).map (·.1)).map V.str)) ∧ Same H H') ⟨upd_same, sNew nD⟩ (fun _ _ _ ⟨_, sm⟩ => .inl (.inl (sm _ _ h3))) ?_ ?_
    · rintro i x H2 H2' hi ⟨hA, sm⟩ ⟨rfl, hx⟩
      obtain ⟨q, d, rfl, hd, da⟩ := h4.at hx
      have da := da.same sm
      have da' := da
      obtain ⟨dq, qq, z1, _⟩ := da'
      refine ⟨rfl, _, rfl, q, dq, _, rfl, z1, q, _, _, _, rfl, da, _, hA, ?_, ?_, sUpd nD sm⟩
      · rw [List.length_map, List.length_map, List.length_take]
        have := sl1k
        omega
      · rw [upd_same, take_snoc hd, List.map_append, List.map_append]
        rfl
    · rintro H2 ⟨hA, sm⟩
      have le : (qs.map V.ref).length = dl.length := by rw [List.length_map]; exact h4.1
      have hA : H2 D = some (.lst (((dl.take (qs.map V.ref).length).map (·.1)).map V.str)) := hA
      rw [le, List.take_length] at hA
      refine ⟨D, dl.map (·.1), rfl, .inl (.inl hA), by rw [List.length_map]; exact few, fun q H3 s3 nq hq => ?_⟩
      exact k q H3 (sm.trans s3) (sm.non nq) hq
def spPReads (K : PySem.W.Frag) (CP CD CT : Addr) : Sp := fun vs H Q _ => ∃ p s wl dl, vs = [.ref p] ∧ ProcAt K CP CD CT H p s wl dl ∧ PFine dl ∧ ∀ q H', Same H H' → H q = none → H' q = some (.lst ((dReads dl).map V.str)) → Q (.ref q) H'
theorem ok_preads (T : Tx P K mg a) : FnOk P w K mg base CX0 7 a.f_Process_reads a.d_Process_reads ["self"] (spPReads K a.C_Process a.C_Deed a.C_Term) := by
  have F1 : FnOk P w K mg base CX0 1 a.f_Deed_term a.d_Deed_term ["self"] (spDTerm K a.C_Deed a.C_Term) := ok_dterm T
  have F2 : FnOk P w K mg base CX0 1 a.f_ascending_words a.d_ascending_words ["words"] (spAscW K) := ok_ascW T
  have F3 : FnOk P w K mg base CX0 5 a.f_Term_variables a.d_Term_variables ["self"] (spTVars K a.C_Term) := ok_tvars T
  refine T.Process_reads.ok sc_Process_reads (fun vs H Q E h => ?_) (fun cdv A outer s H vs Q E hr h => ?_)
  · obtain ⟨p, s, wl, dl, rfl, _⟩ := h
    rfl
  · obtain ⟨p, s, wl, dl, rfl, ⟨dx, pw, pd, qs, h1, h2, h3, h4⟩, ⟨few, fine⟩, k⟩ := h
    have nd := sc_Process_reads.nd
    have hr2 : Room 2 _ := hr.mono (by decide)
    have hr5 : Room 5 _ := hr.mono (by decide)
    refine ⟨_, (pss_one (ps_ret (pe_cf T.ascending_words F2 (hr.mono (by decide)) (pa_cons (pe_lc2 (own := [("deed", 1), ("word", 2)]) (vs1 := [2]) (by rfl) nd (pi_list (pe_fld (pv 0) rfl)) (blkOk_by (own := [("deed", 1), ("word", 2)]) (N := ["self", "deed", "word"]) (sc := defScope s_Process_reads) (by decide +kernel)) (by decide) (fun _ _ _ _ _ => (pg_name (i := 1) nd rfl (Or.inl rfl))) (fun _ _ _ _ _ => pts_nil) (fun _ _ _ _ _ => (pi_listA (K := K) (pe_meth0 (pe_prop (pv 1) T.c_Deed T.p_Deed_term F1 hr2 T.b_Deed_term .nil pass0 rfl) T.c_Term T.m_Term_variables F3 hr5 T.b_Term_variables .nil pass0))) (fun _ _ _ _ _ => (pg_name (i := 2) nd rfl (Or.inl rfl))) (fun _ _ _ _ _ => pts_nil) (fun _ _ _ _ _ => (pv 2))) pa_nil)))), ?_⟩
    refine ⟨_, rfl, p, _, dx, _, _, rfl, h1, T.c_Process, T.no_Process_done, rfl, pd, rfl, ⟨_, .inl (.inl h3)⟩, fun D nD => ?_⟩
    have bound : ∀ n, (((dl.take n).map fun d => ascS d.2.1.ws).flatten).length ≤ 40 := fun n => by
      have := flat_len (f := fun d : DD => ascS d.2.1.ws) (xs := dl.take n) (m := 10) fun d hd => (fine d (List.mem_of_mem_take hd)).2.1
      have : (dl.take n).length ≤ dl.length := by rw [List.length_take]; exact Nat.min_le_right _ _
      omega
    refine it_by (walk_list (xs := qs.map V.ref)) (fun i H' => H' D = some (.lst ((((dl.take i).map fun d => ascS d.2.1.ws).flatten).map V.str)) ∧ Same H H') ⟨upd_same, sNew nD⟩ (fun _ _ _ ⟨_, sm⟩ => .inl (.inl (sm _ _ h3))) ?_ ?_
    · rintro i x H2 H2' hi ⟨hA, sm⟩ ⟨rfl, hx⟩
      obtain ⟨q, d, rfl, hd, da⟩ := h4.at hx
      have da := da.same sm
      have da' := da
      obtain ⟨dq, qq, z1, _⟩ := da'
      have fd := fine d (List.mem_of_getElem? hd)
      refine ⟨rfl, _, rfl, q, dq, _, rfl, z1, q, _, _, _, rfl, da, fun q' tq => ?_⟩
      have t0 := tq
      obtain ⟨e1, u1, z2, _⟩ := t0
      refine ⟨q', e1, _, rfl, z2, lk1, q', _, rfl, tq, fd.1, fun lw H3 s3 nlw hlw => ?_⟩
      refine ⟨lw, rfl, ⟨_, .inl (.inl hlw)⟩, ?_⟩
      have nlD : lw ≠ D := (ne_of_none hA nlw).symm
      have bd := bound i
      refine it_by (walk_list (xs := (ascS d.2.1.ws).map V.str)) (fun j H' => H' D = some (.lst ((((dl.take i).map fun d => ascS d.2.1.ws).flatten ++ (ascS d.2.1.ws).take j).map V.str)) ∧ Same H H' ∧ But D H3 H') ⟨by rw [List.take_zero, List.append_nil]; exact s3 _ _ hA, sm.trans s3, But.refl _ _⟩ (fun _ _ _ ⟨_, _, b⟩ => .inl (.inl (b _ _ nlD hlw))) ?_ ?_
      · rintro j x Ha Ha' hj ⟨hB, sB, bB⟩ ⟨rfl, hx⟩
        obtain ⟨z, hz, rfl⟩ := map_at hx
        refine ⟨rfl, _, rfl, _, hB, ?_, ?_, sUpd nD sB, bB.trans But.upd⟩
        · have := (List.getElem?_eq_some_iff.mp hz).1
          have := fd.2.1
          have := sl1k
          rw [List.length_map, List.length_append, List.length_take]
          omega
        · rw [upd_same, take_snoc hz, ← List.append_assoc, List.map_append (l₂ := [z])]
          rfl
      · rintro Ha ⟨hB, sB, bB⟩
        refine ⟨?_, sB⟩
        have hB : Ha D = some (.lst ((((dl.take i).map fun d => ascS d.2.1.ws).flatten ++ (ascS d.2.1.ws).take ((ascS d.2.1.ws).map V.str).length).map V.str)) := hB
        rw [List.length_map, List.take_length] at hB
        rw [hB, flat_snoc hd]
    · rintro H2 ⟨hA, sm⟩
      have le : (qs.map V.ref).length = dl.length := by rw [List.length_map]; exact h4.1
      have hA : H2 D = some (.lst ((((dl.take (qs.map V.ref).length).map fun d => ascS d.2.1.ws).flatten).map V.str)) := hA
      rw [le, List.take_length] at hA
      have bd := bound dl.length
      rw [List.take_length] at bd
      refine ⟨D, _, rfl, .inl (.inl hA), by omega, fun q H3 s3 nq hq => ?_⟩
      exact k q H3 (sm.trans s3) (sm.non nq) hq
end
end Z
set_option maxRecDepth 100000
set_option maxHeartbeats 4000000
set_option pp.maxSteps 500
namespace Z
open PySem PySem.Spec PyProof.Rows L2
theorem ascS_len {l : List Str} : (ascS l).length ≤ l.length := Ord.len_asc
theorem ascI_len {l : List Int} : (ascI l).length ≤ l.length := Ord.len_asc
def onceTo (ds : List DD) : Nat → List Int
  | 0 => []
  | n + 1 => match ds[n]? with
    | some d => if d.2.2 then onceTo ds n else onceTo ds n ++ [(n : Int)]
    | none => onceTo ds n
theorem onceTo_len (ds : List DD) : ∀ n, (onceTo ds n).length = (ds.take n).countP fun d => !d.2.2
  | 0 => by simp [onceTo]
  | n + 1 => by
    unfold onceTo
    cases h : ds[n]? with
    | none => rw [List.take_succ, h, onceTo_len ds n]; simp
    | some d =>
      rw [take_snoc h, List.countP_append, ← onceTo_len ds n]
      cases hd : d.2.2 <;> simp [hd]
def dOnce (ds : List DD) : List Int := onceTo ds ds.length
theorem dOnce_len (ds : List DD) : (dOnce ds).length = ds.countP fun d => !d.2.2 := by
  unfold dOnce
  rw [onceTo_len, List.take_length]
section
variable {P : Program} {w : World} {K : PySem.W.Frag} {mg : Str → Option Value} {base : Heap} {a : Ad}
theorem tyProc (T : Tx P K mg a) {H : Hp} {p dx : Addr} {fs : List (Str × V)} (h : H p = some (.ins a.C_Process dx fs)) : TyX K H (.ref p) (.ref a.C_Process) := .base (.ins h T.c_Process T.ty_Process T.tn T.tt T.mo_Process)
theorem LT_by {K : PySem.W.Frag} {i : Nat} {σ : L2.St} {H : Hp} {R : It → Hp → Prop} {p : Addr} {xs : List V} (hσ : σ[i]? = some (some (.ref p))) (h : Seq K H p xs) (r : ∀ J G, Walk J xs.length G (YAt xs) → (∀ H', Same H H' → G H') → R J H) : iLT K i σ H R := by
  rcases h with h | h
  · exact .inl ⟨_, hσ, p, rfl, ⟨xs, .inl (.inl h)⟩, r _ _ walk_list (fun H' s => .inl (.inl (s _ _ h)))⟩
  · exact .inr ⟨_, hσ, p, rfl, ⟨xs, h⟩, r _ _ walk_tup (fun H' s => SqT.same s h)⟩
def spPConsts (K : PySem.W.Frag) (CP CD CT : Addr) : Sp := fun vs H Q _ => ∃ p s wl dl, vs = [.ref p] ∧ ProcAt K CP CD CT H p s wl dl ∧ PFine dl ∧ ∀ q H', Same H H' → H q = none → H' q = some (.lst ((dConsts dl).map V.int)) → Q (.ref q) H'
theorem ok_pconsts (T : Tx P K mg a) : FnOk P w K mg base CX0 7 a.f_Process_constants a.d_Process_constants ["self"] (spPConsts K a.C_Process a.C_Deed a.C_Term) := by
  have F1 : FnOk P w K mg base CX0 1 a.f_Deed_term a.d_Deed_term ["self"] (spDTerm K a.C_Deed a.C_Term) := ok_dterm T
  have F2 : FnOk P w K mg base CX0 1 a.f_ascending_numbers a.d_ascending_numbers ["numbers"] (spAscN K) := ok_ascN T
  have F3 : FnOk P w K mg base CX0 5 a.f_Term_constants a.d_Term_constants ["self"] (spTCons K a.C_Term) := ok_tcons T
  refine T.Process_constants.ok sc_Process_constants (fun vs H Q E h => ?_) (fun cdv A outer s H vs Q E hr h => ?_)
  · obtain ⟨p, s, wl, dl, rfl, _⟩ := h
    rfl
  · obtain ⟨p, s, wl, dl, rfl, ⟨dx, pw, pd, qs, h1, h2, h3, h4⟩, ⟨few, fine⟩, k⟩ := h
    have nd := sc_Process_constants.nd
    have hr2 : Room 2 _ := hr.mono (by decide)
    have hr5 : Room 5 _ := hr.mono (by decide)
    refine ⟨_, (pss_one (ps_ret (pe_cf T.ascending_numbers F2 (hr.mono (by decide)) (pa_cons (pe_lc2 (own := [("deed", 1), ("number", 2)]) (vs1 := [2]) (by rfl) nd (pi_list (pe_fld (pv 0) rfl)) (blkOk_by (own := [("deed", 1), ("number", 2)]) (N := ["self", "deed", "number"]) (sc := defScope s_Process_constants) (by decide +kernel)) (by decide) (fun _ _ _ _ _ => (pg_name (i := 1) nd rfl (Or.inl rfl))) (fun _ _ _ _ _ => pts_nil) (fun _ _ _ _ _ => (pi_listA (K := K) (pe_meth0 (pe_prop (pv 1) T.c_Deed T.p_Deed_term F1 hr2 T.b_Deed_term .nil pass0 rfl) T.c_Term T.m_Term_constants F3 hr5 T.b_Term_constants .nil pass0))) (fun _ _ _ _ _ => (pg_name (i := 2) nd rfl (Or.inl rfl))) (fun _ _ _ _ _ => pts_nil) (fun _ _ _ _ _ => (pv 2))) pa_nil)))), ?_⟩
    refine ⟨_, rfl, p, _, dx, _, _, rfl, h1, T.c_Process, T.no_Process_done, rfl, pd, rfl, ⟨_, .inl (.inl h3)⟩, fun D nD => ?_⟩
    have bound : ∀ n, (((dl.take n).map fun d => ascI d.2.1.ns).flatten).length ≤ 40 := fun n => by
      have := flat_len (f := fun d : DD => ascI d.2.1.ns) (xs := dl.take n) (m := 10) fun d hd => (fine d (List.mem_of_mem_take hd)).2.2
      have : (dl.take n).length ≤ dl.length := by rw [List.length_take]; exact Nat.min_le_right _ _
      omega
    refine it_by (walk_list (xs := qs.map V.ref)) (fun i H' => H' D = some (.lst ((((dl.take i).map fun d => ascI d.2.1.ns).flatten).map V.int)) ∧ Same H H') ⟨upd_same, sNew nD⟩ (fun _ _ _ ⟨_, sm⟩ => .inl (.inl (sm _ _ h3))) ?_ ?_
    · rintro i x H2 H2' hi ⟨hA, sm⟩ ⟨rfl, hx⟩
      obtain ⟨q, d, rfl, hd, da⟩ := h4.at hx
      have da := da.same sm
      have da' := da
      obtain ⟨dq, qq, z1, _⟩ := da'
      have fd := fine d (List.mem_of_getElem? hd)
      refine ⟨rfl, _, rfl, q, dq, _, rfl, z1, q, _, _, _, rfl, da, fun q' tq => ?_⟩
      have t0 := tq
      obtain ⟨e1, u1, z2, _⟩ := t0
      refine ⟨q', e1, _, rfl, z2, lk1, q', _, rfl, tq, fd.1, fun lw H3 s3 nlw hlw => ?_⟩
      refine ⟨lw, rfl, ⟨_, .inl (.inl hlw)⟩, ?_⟩
      have nlD : lw ≠ D := (ne_of_none hA nlw).symm
      have bd := bound i
      refine it_by (walk_list (xs := (ascI d.2.1.ns).map V.int)) (fun j H' => H' D = some (.lst ((((dl.take i).map fun d => ascI d.2.1.ns).flatten ++ (ascI d.2.1.ns).take j).map V.int)) ∧ Same H H' ∧ But D H3 H') ⟨by rw [List.take_zero, List.append_nil]; exact s3 _ _ hA, sm.trans s3, But.refl _ _⟩ (fun _ _ _ ⟨_, _, b⟩ => .inl (.inl (b _ _ nlD hlw))) ?_ ?_
      · rintro j x Ha Ha' hj ⟨hB, sB, bB⟩ ⟨rfl, hx⟩
        obtain ⟨z, hz, rfl⟩ := map_at hx
        refine ⟨rfl, _, rfl, _, hB, ?_, ?_, sUpd nD sB, bB.trans But.upd⟩
        · have := (List.getElem?_eq_some_iff.mp hz).1
          have := fd.2.2
          have := sl1k
          rw [List.length_map, List.length_append, List.length_take]
          omega
        · rw [upd_same, take_snoc hz, ← List.append_assoc, List.map_append (l₂ := [z])]
          rfl
      · rintro Ha ⟨hB, sB, bB⟩
        refine ⟨?_, sB⟩
        have hB : Ha D = some (.lst ((((dl.take i).map fun d => ascI d.2.1.ns).flatten ++ (ascI d.2.1.ns).take ((ascI d.2.1.ns).map V.int).length).map V.int)) := hB
        rw [List.length_map, List.take_length] at hB
        rw [hB, flat_snoc hd]
    · rintro H2 ⟨hA, sm⟩
      have le : (qs.map V.ref).length = dl.length := by rw [List.length_map]; exact h4.1
      have hA : H2 D = some (.lst ((((dl.take (qs.map V.ref).length).map fun d => ascI d.2.1.ns).flatten).map V.int)) := hA
      rw [le, List.take_length] at hA
      have bd := bound dl.length
      rw [List.take_length] at bd
      refine ⟨D, _, rfl, .inl (.inl hA), by omega, fun q H3 s3 nq hq => ?_⟩
      exact k q H3 (sm.trans s3) (sm.non nq) hq
theorem dReads_len {ds : List DD} (h : PFine ds) : (dReads ds).length ≤ 40 := by
  have h1 := ascS_len (l := (ds.map fun d => ascS d.2.1.ws).flatten)
  have h2 := flat_len (f := fun d : DD => ascS d.2.1.ws) (xs := ds) (m := 10) fun d hd => (h.2 d hd).2.1
  have h3 := h.1
  unfold dReads
  omega
theorem dWrites_len {ds : List DD} : (dWrites ds).length ≤ ds.length := by
  have h1 := ascS_len (l := ds.map (·.1))
  rw [List.length_map] at h1
  exact h1
def spPVars (K : PySem.W.Frag) (CP CD CT : Addr) : Sp := fun vs H Q _ => ∃ p s wl dl, vs = [.ref p] ∧ ProcAt K CP CD CT H p s wl dl ∧ PFine dl ∧ wl.length ≤ 4 ∧ ∀ q H', Same H H' → H q = none → H' q = some (.lst ((eVars (s, wl, dl)).map V.str)) → Q (.ref q) H'
theorem ok_pvars (T : Tx P K mg a) : FnOk P w K mg base CX0 8 a.f_Process_variables a.d_Process_variables ["self"] (spPVars K a.C_Process a.C_Deed a.C_Term) := by
  have F1 : FnOk P w K mg base CX0 7 a.f_Process_reads a.d_Process_reads ["self"] (spPReads K a.C_Process a.C_Deed a.C_Term) := ok_preads T
  have F2 : FnOk P w K mg base CX0 1 a.f_ascending_words a.d_ascending_words ["words"] (spAscW K) := ok_ascW T
  have F3 : FnOk P w K mg base CX0 3 a.f_Process_writes a.d_Process_writes ["self"] (spPWrites K a.C_Process a.C_Deed a.C_Term) := ok_pwrites T
  refine T.Process_variables.ok sc_Process_variables (fun vs H Q E h => ?_) (fun cdv A outer s H vs Q E hr h => ?_)
  · obtain ⟨p, s, wl, dl, rfl, _⟩ := h
    rfl
  · obtain ⟨p, s, wl, dl, rfl, pa, fine, w4, k⟩ := h
    have pa0 := pa
    obtain ⟨dx, pw, pd, qs, h1, h2, h3, h4⟩ := pa0
    have nd := sc_Process_variables.nd
    have hr3 : Room 3 _ := hr.mono (by decide)
    refine ⟨_, (pss_one (ps_ret (pe_cf T.ascending_words F2 (hr.mono (by decide)) (pa_cons (pe_op op_addA (pe_op op_addA (pe_fld (pv 0) rfl) (pe_meth0 (pv 0) T.c_Process T.m_Process_reads F1 hr T.b_Process_reads .nil pass0)) (pe_meth0 (pv 0) T.c_Process T.m_Process_writes F3 hr3 T.b_Process_writes .nil pass0)) pa_nil)))), ?_⟩
    have l1 := dReads_len fine
    have l2 := dWrites_len (ds := dl)
    have l3 := fine.1
    have sl := sl1k
    refine ⟨_, rfl, p, _, dx, _, _, rfl, h1, T.c_Process, T.no_Process_waited, rfl, ?_⟩
    refine ⟨_, rfl, p, dx, _, rfl, h1, lkP, p, s, wl, dl, rfl, pa, fine, fun q1 H1 s1 n1 hq1 => ?_⟩
    refine addL (s1 _ _ h2) hq1 (by rw [List.length_map, List.length_map]; omega) fun q2 H2 n2 s2 hq2 => ?_
    have s12 := s1.trans s2
    refine ⟨_, rfl, p, dx, _, rfl, s12 _ _ h1, lkP, p, s, wl, dl, rfl, pa.same s12, by omega, fun q3 H3 s3 n3 hq3 => ?_⟩
    refine addL (s3 _ _ hq2) hq3 (by rw [List.length_append, List.length_map, List.length_map, List.length_map]; omega) fun q4 H4 n4 s4 hq4 => ?_
    have s14 := (s12.trans s3).trans s4
    refine ⟨q4, wl ++ dReads dl ++ dWrites dl, rfl, .inl (.inl (by rw [List.map_append, List.map_append]; exact hq4)), by rw [List.length_append, List.length_append]; omega, fun q H5 s5 nq hq => ?_⟩
    exact k q H5 (s14.trans s5) (s14.non nq) hq
def spPOnce (K : PySem.W.Frag) (CP CD CT : Addr) : Sp := fun vs H Q _ => ∃ p s wl dl, vs = [.ref p] ∧ ProcAt K CP CD CT H p s wl dl ∧ dl.length ≤ 100 ∧ ∀ q H', Same H H' → H q = none → H' q = some (.lst ((dOnce dl).map V.int)) → Q (.ref q) H'
theorem ok_ponce (T : Tx P K mg a) : FnOk P w K mg base CX0 3 a.f_Process_at_once a.d_Process_at_once ["self"] (spPOnce K a.C_Process a.C_Deed a.C_Term) := by
  have F1 : FnOk P w K mg base CX0 1 a.f_Deed_late a.d_Deed_late ["self"] (spDLate K a.C_Deed a.C_Term) := ok_dlate T
  refine T.Process_at_once.ok sc_Process_at_once (fun vs H Q E h => ?_) (fun cdv A outer s H vs Q E hr h => ?_)
  · obtain ⟨p, s, wl, dl, rfl, _⟩ := h
    rfl
  · obtain ⟨p, s, wl, dl, rfl, ⟨dx, pw, pd, qs, h1, h2, h3, h4⟩, few, k⟩ := h
    have nd := sc_Process_at_once.nd
    have hr2 : Room 2 _ := hr
    refine ⟨_, (pss_one (ps_ret (pe_lc (own := [("index", 1), ("deed", 2)]) (by rfl) nd (pi_enum rfl T.bi.enumerate (pa_cons (pe_fld (pv 0) rfl) pa_nil)) (blkOk_by (own := [("index", 1), ("deed", 2)]) (N := ["self", "index", "deed"]) (sc := defScope s_Process_at_once) (by decide +kernel)) (fun _ _ _ _ _ => (pg_tupK (K := K) (n := 2) rfl (pgs_cons (pg_name (i := 1) nd rfl (Or.inl rfl) (Or.inr rfl)) (pgs_cons (pg_name (i := 2) nd rfl (Or.inl rfl) (Or.inr rfl)) pgs_nil)))) (fun _ _ _ _ _ => pts_one (pt_not (pt_val (pe_prop (pv 2) T.c_Deed T.p_Deed_late F1 hr2 T.b_Deed_late .nil pass0 rfl)))) (fun _ _ _ _ _ => (pv 1))))), ?_⟩
    refine ⟨_, rfl, p, _, dx, _, _, rfl, h1, T.c_Process, T.no_Process_done, rfl, pd, _, rfl, .inl (.inl h3), fun D nD => ?_⟩
    have bound : ∀ n, (onceTo dl n).length ≤ 100 := fun n => by
      rw [onceTo_len]
      have := List.countP_le_length (p := fun d : DD => !d.2.2) (l := dl.take n)
      have : (dl.take n).length ≤ dl.length := by rw [List.length_take]; exact Nat.min_le_right _ _
      omega
    refine lc_it (walk_enum (xs := qs.map V.ref)) (fun i H' => H' D = some (.lst ((onceTo dl i).map V.int)) ∧ Same H H') ⟨upd_same, sNew nD⟩ (fun _ _ _ ⟨_, sm⟩ => .inl (.inl (sm _ _ h3))) ?_ ?_
    · rintro i x H2 H2' hi ⟨hA, sm⟩ ⟨T0, y0, y1, rfl, nT, rfl, hy0, hy1⟩
      cases hy0
      obtain ⟨q, d, rfl, hd, da⟩ := h4.at hy1
      have sT := sNew (o := .tup [V.int (i : Nat), .ref q]) nT
      have da := (da.same sm).same sT
      have da' := da
      obtain ⟨dq, qq, z1, _⟩ := da'
      refine ⟨T0, _, rfl, .inl (.inl upd_same), rfl, _, _, rfl, _, _, rfl, rfl, rfl, ?_⟩
      refine ⟨_, rfl, q, dq, _, rfl, z1, q, _, _, _, rfl, da, ⟨_, rfl, ?_⟩⟩
      have bd := bound i
      have hA2 := sT _ _ hA
      have e : onceTo dl (i + 1) = if d.2.2 then onceTo dl i else onceTo dl i ++ [(i : Int)] := by
        show (match dl[i]? with | some d => if d.2.2 then onceTo dl i else onceTo dl i ++ [(i : Int)] | none => onceTo dl i) = _
        rw [hd]
      cases hl : d.2.2 with
      | true =>
        rw [hl] at e
        exact ⟨by rw [e]; exact hA2, sm.trans sT⟩
      | false =>
        rw [hl] at e
        refine ⟨_, rfl, _, hA2, by rw [List.length_map]; have := sl1k; omega, ?_, sUpd nD (sm.trans sT)⟩
        rw [upd_same, e]
        simp
    · rintro H2 ⟨hA, sm⟩
      have le : (qs.map V.ref).length = dl.length := by rw [List.length_map]; exact h4.1
      have hA : H2 D = some (.lst ((onceTo dl (qs.map V.ref).length).map V.int)) := hA
      rw [le] at hA
      exact k D H2 sm nD hA
end
end Z
set_option maxRecDepth 100000
set_option maxHeartbeats 4000000
set_option pp.maxSteps 500
namespace Z
open PySem PySem.Spec PyProof.Rows L2
def PV (K : PySem.W.Frag) (CP CD CT : Addr) (H : Hp) (v : V) (e : Ent) : Prop := ∃ q, v = .ref q ∧ ProcAt K CP CD CT H q e.1 e.2.1 e.2.2
theorem PV.same {K : PySem.W.Frag} {CP CD CT : Addr} {H H' : Hp} {v : V} {e : Ent} (s : Same H H') (h : PV K CP CD CT H v e) : PV K CP CD CT H' v e := by
  obtain ⟨q, rfl, h⟩ := h
  exact ⟨q, rfl, h.same s⟩
abbrev PVs (K : PySem.W.Frag) (CP CD CT : Addr) (H : Hp) : List V → List Ent → Prop := All2 (PV K CP CD CT H)
theorem PVs.same {K : PySem.W.Frag} {CP CD CT : Addr} {H H' : Hp} {vs : List V} {es : List Ent} (s : Same H H') (h : PVs K CP CD CT H vs es) : PVs K CP CD CT H' vs es := h.imp fun _ _ h => h.same s
inductive PIt (K : PySem.W.Frag) (CP CD CT : Addr) (H : Hp) : V → Option Ent → Prop
  | own {q : Addr} {e : Ent} (h : ProcAt K CP CD CT H q e.1 e.2.1 e.2.2) : PIt K CP CD CT H (.ref q) (some e)
  | oth {x : V} {ty : String} (h : TyX K H x (.type ty)) (k : PySem.W.kitOne K (.type ty) (.ref CP) = some false) : PIt K CP CD CT H x none
theorem PIt.same {K : PySem.W.Frag} {CP CD CT : Addr} {H H' : Hp} {v : V} {e : Option Ent} (s : Same H H') (h : PIt K CP CD CT H v e) : PIt K CP CD CT H' v e := by
  cases h with
  | own h => exact .own (h.same s)
  | oth h k => exact .oth (tyX_same s h) k
def allO {α : Type} (os : Nat → Option α) : Nat → Option (List α)
  | 0 => some []
  | n + 1 => match allO os n, os n with
    | some l, some d => some (l ++ [d])
    | _, _ => none
theorem allO_isSome {α : Type} (os : Nat → Option α) (i : Nat) : (allO os (i + 1)).isSome = ((allO os i).isSome && (os i).isSome) := by
  rw [allO]
  cases allO os i <;> cases os i <;> rfl
theorem allO_some {α : Type} {os : Nat → Option α} : ∀ {n : Nat} {l : List α}, allO os n = some l → l.length = n ∧ ∀ i, i < n → os i = l[i]?
  | 0, l, h => by
    cases h
    exact ⟨rfl, fun i hi => absurd hi (Nat.not_lt_zero _)⟩
  | n + 1, l, h => by
    unfold allO at h
    split at h
    · rename_i m d e1 e2
      cases h
      obtain ⟨a1, a2⟩ := allO_some e1
      refine ⟨by rw [List.length_append, a1]; rfl, fun i hi => ?_⟩
      by_cases hn : i < n
      · rw [a2 i hn, List.getElem?_append_left (by omega)]
      · have : i = n := by omega
        subst this
        rw [e2, List.getElem?_append_right (by omega), a1, Nat.sub_self]
        rfl
    · cases h
inductive PsQ (K : PySem.W.Frag) (CP CD CT : Addr) (H : Hp) : V → Option (List Ent) → Prop
  | seq {p : Addr} {xs : List V} (h : Seq K H p xs) (os : Nat → Option Ent) (it : ∀ (i : Nat) (x : V), xs[i]? = some x → PIt K CP CD CT H x (os i)) : PsQ K CP CD CT H (.ref p) (if 1 ≤ xs.length ∧ xs.length ≤ 5 then allO os xs.length else none)
  | oth {x : V} {ty : Value} (h : TyX K H x ty) (k1 : PySem.W.kitOne K ty (.type "list") = some false) (k2 : PySem.W.kitOne K ty (.type "tuple") = some false) : PsQ K CP CD CT H x none
theorem PsQ.same {K : PySem.W.Frag} {CP CD CT : Addr} {H H' : Hp} {v : V} {r : Option (List Ent)} (s : Same H H') (h : PsQ K CP CD CT H v r) : PsQ K CP CD CT H' v r := by
  cases h with
  | seq h os it => exact .seq (h.same s) os fun i x hx => (it i x hx).same s
  | oth h k1 k2 => exact .oth (tyX_same s h) k1 k2
theorem PsQ.some {K : PySem.W.Frag} {CP CD CT : Addr} {H : Hp} {v : V} {es : List Ent} (h : PsQ K CP CD CT H v (some es)) : ∃ p xs, v = .ref p ∧ Seq K H p xs ∧ PVs K CP CD CT H xs es ∧ 1 ≤ es.length ∧ es.length ≤ 5 := by
  generalize hr : (Option.some es) = r at h
  cases h with
  | oth h k1 k2 => cases hr
  | @seq p xs h os it =>
    by_cases hl : 1 ≤ xs.length ∧ xs.length ≤ 5
    · rw [if_pos hl] at hr
      obtain ⟨a1, a2⟩ := allO_some hr.symm
      refine ⟨p, xs, rfl, h, ?_, by omega, by omega⟩
      have go : ∀ n, n ≤ xs.length → PVs K CP CD CT H (xs.take n) (es.take n) := fun n => by
        induction n with
        | zero => intro _; exact .nil
        | succ n ih =>
          intro hn
          have hx := List.getElem?_eq_getElem (l := xs) (i := n) hn
          have he := List.getElem?_eq_getElem (l := es) (i := n) (by omega)
          rw [take_snoc hx, take_snoc he]
          refine (ih (by omega)).snoc ?_
          have i1 := it n _ hx
          rw [a2 n hn, he] at i1
          generalize ho : Option.some es[n] = o at i1
          generalize hv : xs[n] = v at i1
          cases i1 with
          | own h =>
            cases ho
            exact ⟨_, rfl, h⟩
          | oth h k => cases ho
      have := go xs.length (Nat.le_refl _)
      rwa [List.take_length, show es.take xs.length = es by rw [← a1, List.take_length]] at this
    · rw [if_neg hl] at hr
      cases hr
theorem isiLTv {K : PySem.W.Frag} {x : V} {tp : Addr} {ty : Value} {H : Hp} {Q : VK} (h : TyX K H x ty) (h1 : PySem.W.kitOne K ty (.type "list") = some false) (h2 : PySem.W.kitOne K ty (.type "tuple") = some false) (ht : H tp = some (.tup [.ty "list", .ty "tuple"])) (q : Q (.bl false) H) : rIsi K [x, .ref tp] H Q ∨ rIsiT K [x, .ref tp] H Q := by
  refine .inr ⟨x, tp, [.ty "list", .ty "tuple"], ty, [.type "list", .type "tuple"], false, rfl, ht, .cons (.ty _) (.cons (.ty _) .nil), h, ?_, q⟩
  unfold PySem.W.kitAny
  rw [h1]
  show PySem.W.kitAny K ty [.type "tuple"] = some false
  unfold PySem.W.kitAny
  rw [h2]
  rfl
inductive InQ (K : PySem.W.Frag) (H : Hp) : V → Option (List Str) → Prop
  | seq {p : Addr} {xs : List V} (h : Seq K H p xs) (ws : ∀ y ∈ xs, WQ K H y (wordV y)) (few : xs.length ≤ 100) : InQ K H (.ref p) (if unlikeB 1 3 xs = true then some (xs.filterMap strV) else none)
  | oth {x : V} {ty : String} (h : TyX K H x (.type ty)) (k1 : kitB ty "list" = some false) (k2 : kitB ty "tuple" = some false) : InQ K H x none
theorem InQ.same {K : PySem.W.Frag} {H H' : Hp} {x : V} {o : Option (List Str)} (s : Same H H') (h : InQ K H x o) : InQ K H' x o := by
  cases h with
  | seq h ws few => exact .seq (h.same s) (fun y hy => (ws y hy).same s) few
  | oth h k1 k2 => exact .oth (tyX_same s h) k1 k2
theorem InQ.uw {K : PySem.W.Frag} {H : Hp} {x : V} {o : Option (List Str)} (h : InQ K H x o) : UW K H 1 3 x o.isSome := by
  cases h with
  | @seq p xs h ws few =>
    have := UW.seq (lo := 1) (hi := 3) h ws few
    cases e : unlikeB 1 3 xs <;> rw [e] at this <;> simpa using this
  | oth h k1 k2 => exact .oth h k1 k2
theorem InQ.some {K : PySem.W.Frag} {H : Hp} {x : V} {ins : List Str} (h : InQ K H x (some ins)) : ∃ p, x = .ref p ∧ Seq K H p (ins.map V.str) ∧ ins.length ≤ 3 ∧ 1 ≤ ins.length ∧ ins.Nodup ∧ ∀ y ∈ ins, Word y := by
  generalize hr : (Option.some ins) = r at h
  cases h with
  | oth h k1 k2 => cases hr
  | @seq p xs h ws few =>
    by_cases e : unlikeB 1 3 xs = true
    · rw [if_pos e] at hr
      cases hr
      obtain ⟨em, n1, n2, n3, n4⟩ := unlike_true e
      refine ⟨p, rfl, by rw [← em]; exact h, ?_, ?_, n1, n2⟩
      · have := congrArg List.length em
        rw [List.length_map] at this
        omega
      · have := congrArg List.length em
        rw [List.length_map] at this
        omega
    · rw [if_neg e] at hr
      cases hr
section
variable {P : Program} {w : World} {K : PySem.W.Frag} {mg : Str → Option Value} {base : Heap} {a : Ad}
def spArePs (K : PySem.W.Frag) (CP CD CT : Addr) : Sp := fun vs H Q _ => ∃ (x : V) (r : Option (List Ent)), vs = [x] ∧ PsQ K CP CD CT H x r ∧ ∀ H', Same H H' → Q (.bl r.isSome) H'
theorem ok_areps (T : Tx P K mg a) : FnOk P w K mg base CX0 1 a.f_are_processes a.d_are_processes ["value"] (spArePs K a.C_Process a.C_Deed a.C_Term) := by
  refine T.are_processes.fn.ok sc_are_processes (fun vs H Q E h => ?_) (fun cdv A outer s H vs Q E hr h => ?_)
  · obtain ⟨x, r, rfl, _⟩ := h
    rfl
  · obtain ⟨x, r, rfl, hx, q⟩ := h
    have nd := sc_are_processes.nd
    refine ⟨_, (pss_cons (ps_if (PW.pt (pw_or (pt_not (pt_val (cb_isi T.bi (pa_cons (pv 0) (pa_cons (pe_tup (pa_cons (gl_ty rfl T.bi.list PyProof.Rows.boot_list) (pa_cons (gl_ty rfl T.bi.tuple PyProof.Rows.boot_tuple) pa_nil))) pa_nil))))) (pw_or1 (pt_not (pt_chain op_le op_le pe_int (cb_len T.bi (pa_cons (pv 0) pa_nil)) (pe_gi T.v_MOST_PROCESSES))))))
        (pss_one (ps_ret pe_bl)) pss_nil)
      (pss_one (ps_ret (pe_cmpR (op_eqX hr) (pe_lc (own := [("part", 1)]) (by rfl) nd (pi_LT (K := K) (pv 0)) (blkOk_by (own := [("part", 1)]) (N := ["value", "part"]) (sc := defScope s_are_processes) (by decide +kernel)) (fun _ _ _ _ _ => (pg_name (i := 1) nd rfl (Or.inl rfl))) (fun _ _ _ _ _ => pts_one (pt_not (pt_val (cb_isiA (K := K) T.bi (pa_cons (pv 1) (pa_cons (pe_gr T.g_Process) pa_nil)))))) (fun _ _ _ _ _ => (pv 1))) (pe_lst pa_nil) (nomark _))))), ?_⟩
    refine ⟨_, rfl, by show 2 ≤ sizeLine; decide, fun tp ntp => ?_⟩
    have s0 := sNew (o := .tup [V.ty "list", .ty "tuple"]) ntp
    have hx0 := hx.same s0
    have htp : upd H tp (.tup [V.ty "list", .ty "tuple"]) tp = some (.tup [V.ty "list", .ty "tuple"]) := upd_same
    generalize upd H tp (.tup [V.ty "list", .ty "tuple"]) = H0 at s0 hx0 htp ⊢
    cases hx0 with
    | oth h k1 k2 =>
      refine isiLTv h k1 k2 htp ?_
      refine ⟨_, rfl, ?_⟩
      exact q _ s0
    | @seq p xs hq os it =>
      obtain ⟨ty, b1, b2, hty, k1, k2, hb⟩ := hq.ty
      refine isiLT hty k1 k2 htp ?_
      rw [hb]
      refine ⟨_, rfl, ?_⟩
      refine ⟨_, rfl, lenLT hq.lt ?_⟩
      refine ⟨1, _, rfl, rfl, _, rfl, ?_⟩
      by_cases h1 : (1 : Int) ≤ (xs.length : Int)
      · rw [decide_eq_true h1]
        refine ⟨_, 5, rfl, rfl, ?_⟩
        refine ⟨_, rfl, ?_⟩
        by_cases h2 : (xs.length : Int) ≤ 5
        · rw [decide_eq_true h2]
          rw [if_pos (by omega)] at q
          refine LT_by rfl hq fun J G wk st => fun D nD => ?_
          refine lc_it wk (fun i H' => ∃ acc : List V, H' D = some (.lst acc) ∧ Same H0 H' ∧ acc.length ≤ i ∧ acc.isEmpty = (allO os i).isSome) ⟨[], upd_same, sNew nD, Nat.le_refl _, rfl⟩ (fun _ _ _ ⟨_, _, sm, _⟩ => st _ sm) ?_ ?_
          · rintro i x H1 H1' hi ⟨acc, hA, sm, ln, em⟩ ⟨rfl, hx⟩
            have e1 : (allO os (i + 1)).isSome = ((allO os i).isSome && (os i).isSome) := allO_isSome os i
            have i1 := (it i x hx).same sm
            generalize ho : os i = o at i1
            rw [ho] at e1
            cases i1 with
            | own h =>
              have h' := h
              obtain ⟨dx, pw, pd, qs, z1, _⟩ := h'
              refine ⟨rfl, _, rfl, ⟨isiOwn (tyProc T z1) T.kit_Process ?_⟩⟩
              refine ⟨_, rfl, ?_⟩
              exact ⟨acc, hA, sm, by omega, by rw [e1, em]; simp⟩
            | oth h k =>
              refine ⟨rfl, _, rfl, ⟨isiOwn h k ?_⟩⟩
              refine ⟨_, rfl, ?_⟩
              refine ⟨_, rfl, acc, hA, by have := sl1k; omega, acc ++ [x], upd_same, sUpd nD sm, by rw [List.length_append]; exact Nat.succ_le_succ ln, ?_⟩
              rw [e1]
              simp
          · rintro H1 ⟨acc, hA, sm, ln, em⟩
            refine ⟨Nat.zero_le _, fun pe npe => ?_⟩
            refine eqL0 (.inl (.inl (by rw [upd_ne (ne_of_none hA npe)]; exact hA))) upd_same ?_
            rw [em]
            exact q _ ((s0.trans sm).trans (sNew npe))
        · rw [decide_eq_false h2]
          rw [if_neg (by omega)] at q
          exact q _ s0
      · rw [decide_eq_false h1]
        rw [if_neg (by omega)] at q
        exact ⟨_, rfl, q _ s0⟩
end
end Z
set_option maxRecDepth 100000
set_option maxHeartbeats 4000000
set_option pp.maxSteps 500
namespace Z
open PySem PySem.Spec PyProof.Rows L2
theorem inV_strs {x : Str} : ∀ l : List Str, inV (.str x) (l.map V.str) = decide (x ∈ l)
  | [] => rfl
  | z :: r => by
    have ih := inV_strs (x := x) r
    unfold inV at ih ⊢
    rw [List.map_cons, List.any_cons, ih]
    show ((z == x) || decide (x ∈ r)) = _
    by_cases h : x = z
    · subst h
      simp
    · have : ¬ z = x := fun e => h e.symm
      simp [h, this]
theorem flat_strs : ∀ l : List Str, (l.map V.str).all flatV = true
  | [] => rfl
  | z :: r => by
    rw [List.map_cons, List.all_cons, flat_strs r]
    rfl
theorem inStrs {K : PySem.W.Frag} {H : Hp} {Q : VK} {x : Str} {p : Addr} {l : List Str} (h : SqL K H p (l.map V.str)) (q : Q (.bl (decide (x ∈ l))) H) : rInA K false (.str x) (.ref p) H Q :=
  ⟨.inl ⟨p, _, rfl, .inl h, rfl, flat_strs l, by rw [inV_strs]; exact q⟩⟩
def writesOf (ins : List Str) (e : Ent) : Bool := ins.any fun w => decide (w ∈ dWrites e.2.2)
def inB (es : List Ent) : Option (List Str) → Bool
  | some ins => !(es.any (writesOf ins))
  | none => false
section
variable {P : Program} {w : World} {K : PySem.W.Frag} {mg : Str → Option Value} {base : Heap} {a : Ad}
def spAreIn (K : PySem.W.Frag) (CP CD CT : Addr) : Sp := fun vs H Q _ => ∃ (y : V) (px : Addr) (o : Option (List Str)) (xs : List V) (es : List Ent), vs = [y, .ref px] ∧ InQ K H y o ∧ Seq K H px xs ∧ PVs K CP CD CT H xs es ∧ xs.length ≤ 100 ∧ (∀ e ∈ es, e.2.2.length < 64) ∧ ∀ H', Same H H' → Q (.bl (inB es o)) H'
theorem ok_arein (T : Tx P K mg a) : FnOk P w K mg base CX0 5 a.f_are_inputs a.d_are_inputs ["value", "processes"] (spAreIn K a.C_Process a.C_Deed a.C_Term) := by
  have F1 : FnOk P w K mg base CX0 2 a.f_are_unlike_words a.d_are_unlike_words ["value", "low", "high"] (spUnlike K) := ok_unlike T
  have F2 : FnOk P w K mg base CX0 3 a.f_Process_writes a.d_Process_writes ["self"] (spPWrites K a.C_Process a.C_Deed a.C_Term) := ok_pwrites T
  refine T.are_inputs.fn.ok sc_are_inputs (fun vs H Q E h => ?_) (fun cdv A outer s H vs Q E hr h => ?_)
  · obtain ⟨y, px, o, xs, es, rfl, _⟩ := h
    rfl
  · obtain ⟨y, px, o, xs, es, rfl, hy, hx, he, few, fine, q⟩ := h
    have nd := sc_are_inputs.nd
    have hr2 : Room 2 _ := hr.mono (by decide)
    have hr3 : Room 3 _ := hr.mono (by decide)
    refine ⟨_, (pss_cons (ps_if (pt_not (pt_val (pe_cf T.are_unlike_words F1 hr2 (pa_cons (pv 0) (pa_cons pe_int (pa_cons (pe_gi T.v_MOST_INPUTS) pa_nil))))))
        (pss_one (ps_ret pe_bl)) pss_nil)
      (pss_one (ps_ret (pe_cmpR (op_eqX hr) (pe_lc (own := [("process", 2)]) (by rfl) nd (pi_LT (K := K) (pv 1)) (blkOk_by (own := [("process", 2)]) (N := ["value", "processes", "process", "word"]) (sc := defScope s_are_inputs) (by decide +kernel)) (fun _ _ _ _ _ => (pg_name (i := 2) nd rfl (Or.inr rfl))) (fun _ _ _ _ _ => pts_one (pt_cmpR (op_neX (K := K) hr) (pe_lc (own := [("word", 3)]) (by rfl) nd (pi_LT (K := K) (pv 0)) (blkOk_by (own := [("word", 3)]) (N := ["value", "processes", "process", "word"]) (sc := { kind := .function, names := [(".0", .local), ("process", .cell), ("value", .cell)], isGenerator := false, isCoroutine := false }) (by decide +kernel)) (fun _ _ _ _ _ => (pg_name (i := 3) nd rfl (Or.inl rfl))) (fun _ _ _ _ _ => pts_one (pt_cmpR (op_inA (K := K)) (pv 3) (pe_meth0 (pv 2) T.c_Process T.m_Process_writes F2 hr3 T.b_Process_writes .nil pass0) rfl)) (fun _ _ _ _ _ => (pv 3))) (pe_lst pa_nil) (nomark _))) (fun _ _ _ _ _ => (pv 2))) (pe_lst pa_nil) (nomark _))))), ?_⟩
    refine ⟨_, rfl, y, 1, 3, o.isSome, rfl, hy.uw, fun H1 s1 => ⟨_, rfl, ?_⟩⟩
    cases o with
    | none => exact q H1 s1
    | some ins =>
      obtain ⟨py, rfl, hyS, ly, _⟩ := (hy.same s1).some
      have hx1 := hx.same s1
      have he1 := PVs.same s1 he
      have sl := sl1k
      refine LT_by rfl hx1 fun J G wk st D nD => ?_
      refine lc_it wk (fun i H' => ∃ acc : List V, H' D = some (.lst acc) ∧ Same H1 H' ∧ acc.length ≤ i ∧ acc.isEmpty = !((es.take i).any (writesOf ins))) ⟨[], upd_same, sNew nD, Nat.le_refl _, rfl⟩ (fun _ _ _ ⟨_, _, sm, _⟩ => st _ sm) ?_ ?_
      · rintro i x H2 H2' hi ⟨acc, hA, sm, ln, em⟩ ⟨rfl, hxx⟩
        obtain ⟨e, hE, p, rfl, pa⟩ := he1.get hxx
        have tk : (es.take (i + 1)).any (writesOf ins) = ((es.take i).any (writesOf ins) || writesOf ins e) := by rw [take_snoc hE, List.any_append]; simp
        refine ⟨rfl, ?_⟩
        refine LT_by rfl (hyS.same sm) fun J2 G2 wk2 st2 D2 nD2 => ?_
        refine lc_it wk2 (fun j H' => ∃ acc2 : List V, H' D2 = some (.lst acc2) ∧ Same H2' H' ∧ acc2.length ≤ j ∧ acc2.isEmpty = !((ins.take j).any fun w => decide (w ∈ dWrites e.2.2))) ⟨[], upd_same, sNew nD2, Nat.le_refl _, rfl⟩ (fun _ _ _ ⟨_, _, s2, _⟩ => st2 _ s2) ?_ ?_
        · rintro j z Ha Ha' hj ⟨acc2, hB, s2, ln2, em2⟩ ⟨rfl, hz⟩
          obtain ⟨w0, hw, rfl⟩ := map_at hz
          have pa2 := (pa.same sm).same s2
          have pa3 := pa2
          obtain ⟨dx, pw, pd, qs, z1, _⟩ := pa3
          have tk2 : ((ins.take (j + 1)).any fun w => decide (w ∈ dWrites e.2.2)) = (((ins.take j).any fun w => decide (w ∈ dWrites e.2.2)) || decide (w0 ∈ dWrites e.2.2)) := by rw [take_snoc hw, List.any_append]; simp
          have hj' : j < (ins.map V.str).length := hj
          rw [List.length_map] at hj'
          refine ⟨rfl, _, rfl, _, rfl, p, dx, _, rfl, z1, lkP, p, _, _, _, rfl, pa2, fine e (List.mem_of_getElem? hE), fun qw Hb sb nb hb => inStrs (.inl (.inl hb)) ⟨_, rfl, ?_⟩⟩
          by_cases hin : w0 ∈ dWrites e.2.2
          · rw [decide_eq_true hin] at tk2 ⊢
            refine ⟨_, rfl, acc2, sb _ _ hB, by omega, acc2 ++ [.str w0], upd_same, sUpd nD2 (s2.trans sb), by rw [List.length_append]; exact Nat.succ_le_succ ln2, ?_⟩
            rw [tk2]
            simp
          · rw [decide_eq_false hin] at tk2 ⊢
            exact ⟨acc2, sb _ _ hB, s2.trans sb, by omega, by rw [tk2, em2, Bool.or_false]⟩
        · rintro Ha ⟨acc2, hB, s2, _, em2⟩
          have em2 : acc2.isEmpty = !((ins.take (ins.map V.str).length).any fun w => decide (w ∈ dWrites e.2.2)) := em2
          rw [List.length_map, List.take_length] at em2
          refine ⟨Nat.zero_le _, fun pe npe => neL0 (.inl (.inl (by rw [upd_ne (ne_of_none hB npe)]; exact hB))) upd_same ⟨_, rfl, ?_⟩⟩
          have s3 := s2.trans (sNew (o := .lst []) npe)
          have hi' : i < xs.length := hi
          rw [em2, Bool.not_not]
          cases hw : writesOf ins e with
          | true =>
            have hw' : (ins.any fun w => decide (w ∈ dWrites e.2.2)) = true := hw
            rw [hw']
            refine ⟨_, rfl, acc, s3 _ _ hA, by omega, acc ++ [.ref p], upd_same, sUpd nD (sm.trans s3), by rw [List.length_append]; exact Nat.succ_le_succ ln, ?_⟩
            rw [tk, hw]
            simp
          | false =>
            have hw' : (ins.any fun w => decide (w ∈ dWrites e.2.2)) = false := hw
            rw [hw']
            exact ⟨acc, s3 _ _ hA, sm.trans s3, by omega, by rw [tk, hw, em, Bool.or_false]⟩
      · rintro H2 ⟨acc, hA, sm, ln, em⟩
        have le : xs.length = es.length := he.length
        have em : acc.isEmpty = !((es.take xs.length).any (writesOf ins)) := em
        rw [le, List.take_length] at em
        refine ⟨Nat.zero_le _, fun pe npe => ?_⟩
        refine eqL0 (.inl (.inl (by rw [upd_ne (ne_of_none hA npe)]; exact hA))) upd_same ?_
        rw [em]
        exact q _ ((s1.trans sm).trans (sNew npe))
end
end Z
set_option maxRecDepth 100000
set_option maxHeartbeats 4000000
set_option pp.maxSteps 500
namespace Z
open PySem PySem.Spec PyProof.Rows L2
def VFine (e : Ent) : Prop := PFine e.2.2 ∧ e.2.1.length ≤ 4 ∧ (eVars e).length ≤ 10 ∧ (dConsts e.2.2).length ≤ 10
def allVars (es : List Ent) (ins : List Str) : List Str := ascS (ins ++ (es.map eVars).flatten)
def allConsts (es : List Ent) : List Int := ascI ((es.map fun e => dConsts e.2.2).flatten)
section
variable {P : Program} {w : World} {K : PySem.W.Frag} {mg : Str → Option Value} {base : Heap} {a : Ad}
def spAllV (K : PySem.W.Frag) (CP CD CT : Addr) : Sp := fun vs H Q _ => ∃ (px : Addr) (xs : List V) (es : List Ent) (py : Addr) (ins : List Str), vs = [.ref px, .ref py] ∧ Seq K H px xs ∧ PVs K CP CD CT H xs es ∧ es.length ≤ 5 ∧ (∀ e ∈ es, VFine e) ∧ Seq K H py (ins.map V.str) ∧ ins.length ≤ 3 ∧ ∀ q H', Same H H' → H q = none → H' q = some (.lst ((allVars es ins).map V.str)) → Q (.ref q) H'
theorem ok_allv (T : Tx P K mg a) : FnOk P w K mg base CX0 9 a.f_all_variables a.d_all_variables ["processes", "inputs"] (spAllV K a.C_Process a.C_Deed a.C_Term) := by
  have F1 : FnOk P w K mg base CX0 8 a.f_Process_variables a.d_Process_variables ["self"] (spPVars K a.C_Process a.C_Deed a.C_Term) := ok_pvars T
  have F2 : FnOk P w K mg base CX0 1 a.f_ascending_words a.d_ascending_words ["words"] (spAscW K) := ok_ascW T
  refine T.all_variables.fn.ok sc_all_variables (fun vs H Q E h => ?_) (fun cdv A outer s H vs Q E hr h => ?_)
  · obtain ⟨px, xs, es, py, ins, rfl, _⟩ := h
    rfl
  · obtain ⟨px, xs, es, py, ins, rfl, hx, he, few, fine, hin, few3, k⟩ := h
    have nd := sc_all_variables.nd
    have hr1 : Room 1 _ := hr.mono (by decide)
    have hrM : Room 8 _ := hr.mono (by decide)
    refine ⟨_, (pss_one (ps_ret (pe_cf T.ascending_words F2 hr1 (pa_cons (pe_op op_addA (cb_list T.bi (pa_cons (pv 1) pa_nil)) (pe_lc2 (own := [("process", 2), ("word", 3)]) (vs1 := [3]) (by rfl) nd (pi_LT (K := K) (pv 0)) (blkOk_by (own := [("process", 2), ("word", 3)]) (N := ["processes", "inputs", "process", "word"]) (sc := defScope s_all_variables) (by decide +kernel)) (by decide) (fun _ _ _ _ _ => (pg_name (i := 2) nd rfl (Or.inl rfl))) (fun _ _ _ _ _ => pts_nil) (fun _ _ _ _ _ => (pi_listA (K := K) (pe_meth0 (pv 2) T.c_Process T.m_Process_variables F1 hrM T.b_Process_variables .nil pass0))) (fun _ _ _ _ _ => (pg_name (i := 3) nd rfl (Or.inl rfl))) (fun _ _ _ _ _ => pts_nil) (fun _ _ _ _ _ => (pv 3)))) pa_nil)))), ?_⟩
    have le := he.length
    have sl := sl1k
    have bound : ∀ n, (((es.take n).map eVars).flatten).length ≤ 50 := fun n => by
      have := flat_len (f := eVars) (xs := es.take n) (m := 10) fun e h => (fine e (List.mem_of_mem_take h)).2.2.1
      have : (es.take n).length ≤ es.length := by rw [List.length_take]; exact Nat.min_le_right _ _
      omega
    refine ⟨_, rfl, listL hin.lt fun li H0 nli s0 hli => ?_⟩
    have hx0 := hx.same s0
    have he0 := PVs.same s0 he
    refine LT_by rfl hx0 fun J G wk st D nD => ?_
    refine it_by wk (fun i H' => H' D = some (.lst ((((es.take i).map eVars).flatten).map V.str)) ∧ Same H0 H') ⟨upd_same, sNew nD⟩ (fun _ _ _ ⟨_, sm⟩ => st _ sm) ?_ ?_
    · rintro i x H2 H2' hi ⟨hA, sm⟩ ⟨rfl, hx⟩
      obtain ⟨e, hE, p, rfl, pa⟩ := he0.get hx
      have pa := pa.same sm
      have pa2 := pa
      obtain ⟨dx, pw, pd, qs, z1, _⟩ := pa2
      have fe := fine e (List.mem_of_getElem? hE)
      refine ⟨rfl, _, rfl, p, dx, _, rfl, z1, lkP, p, _, _, _, rfl, pa, fe.1, fe.2.1, fun lw H3 s3 nlw hlw => ?_⟩
      refine ⟨lw, rfl, ⟨_, .inl (.inl hlw)⟩, ?_⟩
      have nlD : lw ≠ D := (ne_of_none hA nlw).symm
      have bd := bound i
      refine it_by (walk_list (xs := (eVars e).map V.str)) (fun j H' => H' D = some (.lst ((((es.take i).map eVars).flatten ++ (eVars e).take j).map V.str)) ∧ Same H0 H' ∧ But D H3 H') ⟨by rw [List.take_zero, List.append_nil]; exact s3 _ _ hA, sm.trans s3, But.refl _ _⟩ (fun _ _ _ ⟨_, _, b⟩ => .inl (.inl (b _ _ nlD hlw))) ?_ ?_
      · rintro j x Ha Ha' hj ⟨hB, sB, bB⟩ ⟨rfl, hx⟩
        obtain ⟨z, hz, rfl⟩ := map_at hx
        refine ⟨rfl, _, rfl, _, hB, ?_, ?_, sUpd nD sB, bB.trans But.upd⟩
        · have := (List.getElem?_eq_some_iff.mp hz).1
          have := fe.2.2.1
          rw [List.length_map, List.length_append, List.length_take]
          omega
        · rw [upd_same, take_snoc hz, ← List.append_assoc, List.map_append (l₂ := [z])]
          rfl
      · rintro Ha ⟨hB, sB, bB⟩
        refine ⟨?_, sB⟩
        have hB : Ha D = some (.lst ((((es.take i).map eVars).flatten ++ (eVars e).take ((eVars e).map V.str).length).map V.str)) := hB
        rw [List.length_map, List.take_length] at hB
        rw [hB, flat_snoc hE]
    · rintro H2 ⟨hA, sm⟩
      have hA : H2 D = some (.lst ((((es.take xs.length).map eVars).flatten).map V.str)) := hA
      rw [le, List.take_length] at hA
      have bd := bound es.length
      rw [List.take_length] at bd
      refine addL (sm _ _ hli) hA (by rw [List.length_map, List.length_map]; omega) fun q2 H3 n3 s3 hq2 => ?_
      have s03 := (s0.trans sm).trans s3
      refine ⟨q2, ins ++ (es.map eVars).flatten, rfl, .inl (.inl (by rw [List.map_append]; exact hq2)), by rw [List.length_append]; omega, fun q H4 s4 nq hq => ?_⟩
      exact k q H4 (s03.trans s4) (s03.non nq) hq
def spAllC (K : PySem.W.Frag) (CP CD CT : Addr) : Sp := fun vs H Q _ => ∃ (px : Addr) (xs : List V) (es : List Ent), vs = [.ref px] ∧ Seq K H px xs ∧ PVs K CP CD CT H xs es ∧ es.length ≤ 5 ∧ (∀ e ∈ es, VFine e) ∧ ∀ q H', Same H H' → H q = none → H' q = some (.lst ((allConsts es).map V.int)) → Q (.ref q) H'
theorem ok_allc (T : Tx P K mg a) : FnOk P w K mg base CX0 9 a.f_all_constants a.d_all_constants ["processes"] (spAllC K a.C_Process a.C_Deed a.C_Term) := by
  have F1 : FnOk P w K mg base CX0 7 a.f_Process_constants a.d_Process_constants ["self"] (spPConsts K a.C_Process a.C_Deed a.C_Term) := ok_pconsts T
  have F2 : FnOk P w K mg base CX0 1 a.f_ascending_numbers a.d_ascending_numbers ["numbers"] (spAscN K) := ok_ascN T
  refine T.all_constants.fn.ok sc_all_constants (fun vs H Q E h => ?_) (fun cdv A outer s H vs Q E hr h => ?_)
  · obtain ⟨px, xs, es, rfl, _⟩ := h
    rfl
  · obtain ⟨px, xs, es, rfl, hx, he, few, fine, k⟩ := h
    have nd := sc_all_constants.nd
    have hr1 : Room 1 _ := hr.mono (by decide)
    have hrM : Room 7 _ := hr.mono (by decide)
    refine ⟨_, (pss_one (ps_ret (pe_cf T.ascending_numbers F2 hr1 (pa_cons (pe_lc2 (own := [("process", 1), ("number", 2)]) (vs1 := [2]) (by rfl) nd (pi_LT (K := K) (pv 0)) (blkOk_by (own := [("process", 1), ("number", 2)]) (N := ["processes", "process", "number"]) (sc := defScope s_all_constants) (by decide +kernel)) (by decide) (fun _ _ _ _ _ => (pg_name (i := 1) nd rfl (Or.inl rfl))) (fun _ _ _ _ _ => pts_nil) (fun _ _ _ _ _ => (pi_listA (K := K) (pe_meth0 (pv 1) T.c_Process T.m_Process_constants F1 hrM T.b_Process_constants .nil pass0))) (fun _ _ _ _ _ => (pg_name (i := 2) nd rfl (Or.inl rfl))) (fun _ _ _ _ _ => pts_nil) (fun _ _ _ _ _ => (pv 2))) pa_nil)))), ?_⟩
    have le := he.length
    have sl := sl1k
    have bound : ∀ n, (((es.take n).map (fun e : Ent => dConsts e.2.2)).flatten).length ≤ 50 := fun n => by
      have := flat_len (f := (fun e : Ent => dConsts e.2.2)) (xs := es.take n) (m := 10) fun e h => (fine e (List.mem_of_mem_take h)).2.2.2
      have : (es.take n).length ≤ es.length := by rw [List.length_take]; exact Nat.min_le_right _ _
      omega
    refine LT_by rfl hx fun J G wk st D nD => ?_
    refine it_by wk (fun i H' => H' D = some (.lst ((((es.take i).map (fun e : Ent => dConsts e.2.2)).flatten).map V.int)) ∧ Same H H') ⟨upd_same, sNew nD⟩ (fun _ _ _ ⟨_, sm⟩ => st _ sm) ?_ ?_
    · rintro i x H2 H2' hi ⟨hA, sm⟩ ⟨rfl, hx⟩
      obtain ⟨e, hE, p, rfl, pa⟩ := he.get hx
      have pa := pa.same sm
      have pa2 := pa
      obtain ⟨dx, pw, pd, qs, z1, _⟩ := pa2
      have fe := fine e (List.mem_of_getElem? hE)
      refine ⟨rfl, _, rfl, p, dx, _, rfl, z1, lkP, p, _, _, _, rfl, pa, fe.1, fun lw H3 s3 nlw hlw => ?_⟩
      refine ⟨lw, rfl, ⟨_, .inl (.inl hlw)⟩, ?_⟩
      have nlD : lw ≠ D := (ne_of_none hA nlw).symm
      have bd := bound i
      refine it_by (walk_list (xs := (dConsts e.2.2).map V.int)) (fun j H' => H' D = some (.lst ((((es.take i).map (fun e : Ent => dConsts e.2.2)).flatten ++ (dConsts e.2.2).take j).map V.int)) ∧ Same H H' ∧ But D H3 H') ⟨by rw [List.take_zero, List.append_nil]; exact s3 _ _ hA, sm.trans s3, But.refl _ _⟩ (fun _ _ _ ⟨_, _, b⟩ => .inl (.inl (b _ _ nlD hlw))) ?_ ?_
      · rintro j x Ha Ha' hj ⟨hB, sB, bB⟩ ⟨rfl, hx⟩
        obtain ⟨z, hz, rfl⟩ := map_at hx
        refine ⟨rfl, _, rfl, _, hB, ?_, ?_, sUpd nD sB, bB.trans But.upd⟩
        · have := (List.getElem?_eq_some_iff.mp hz).1
          have := fe.2.2.2
          rw [List.length_map, List.length_append, List.length_take]
          omega
        · rw [upd_same, take_snoc hz, ← List.append_assoc, List.map_append (l₂ := [z])]
          rfl
      · rintro Ha ⟨hB, sB, bB⟩
        refine ⟨?_, sB⟩
        have hB : Ha D = some (.lst ((((es.take i).map (fun e : Ent => dConsts e.2.2)).flatten ++ (dConsts e.2.2).take ((dConsts e.2.2).map V.int).length).map V.int)) := hB
        rw [List.length_map, List.take_length] at hB
        rw [hB, flat_snoc hE]
    · rintro H2 ⟨hA, sm⟩
      have hA : H2 D = some (.lst ((((es.take xs.length).map (fun e : Ent => dConsts e.2.2)).flatten).map V.int)) := hA
      rw [le, List.take_length] at hA
      have bd := bound es.length
      rw [List.take_length] at bd
      refine ⟨D, _, rfl, .inl (.inl hA), by omega, fun q H4 s4 nq hq => ?_⟩
      exact k q H4 (sm.trans s4) (sm.non nq) hq
end
end Z
set_option maxRecDepth 100000
set_option maxHeartbeats 4000000
set_option pp.maxSteps 500
namespace Z
open PySem PySem.Spec PyProof.Rows L2
def atOnce (es : List Ent) : Nat := (es.map fun e => e.2.2.countP fun d => !d.2.2).sum
def fw (r : Option (List Ent)) (o : Option (List Str)) : Option Str := match r with
  | none => some "processes"
  | some es => if (es.map (·.1)).Nodup then (if inB es o = true then (if 5 < (allVars es (o.getD [])).length then some "variables" else if 2 < (allConsts es).length then some "constants" else if 8 < atOnce es then some "deeds" else none) else some "inputs") else some "names"
theorem fw_some (es : List Ent) (o : Option (List Str)) : fw (some es) o = if (es.map (·.1)).Nodup then (if inB es o = true then (if 5 < (allVars es (o.getD [])).length then some ("variables" : Str) else if 2 < (allConsts es).length then some ("constants" : Str) else if 8 < atOnce es then some ("deeds" : Str) else none) else some ("inputs" : Str)) else some ("names" : Str) := rfl
theorem sum_cast (es : List Ent) : (es.map fun e => ((e.2.2.countP fun d => !d.2.2 : Nat) : Int)).sum = (atOnce es : Nat) := by
  unfold atOnce
  induction es with
  | nil => rfl
  | cons e r ih =>
    simp only [List.map_cons, List.sum_cons, ih]
    omega
def optS : Option Str → V
  | none => .non
  | some s => .str s
section
variable {X : Cx} {e : Expr} {es : List Expr} {t : TA} {p pos : Pos} {K : PySem.W.Frag}
theorem cb_lenA (B : Bi X.mg) (ha : PA X (e :: es) t) (hk : X.K = K := by rfl) (hg : Gl X "len" := by rfl) (he : starEach (e :: es) X.env = (false, eval e X.env) :: starEach es X.env := by rfl) (hpl : (backTo pos (starEach es X.env)).any (·.1) = false := by rfl) :
    PE X (.Call (.Name "len" p) (e :: es) [] pos) (tCB (rLenA K) t) := by
  subst hk
  exact cb_len B ha hg he hpl
end
section
variable {P : Program} {w : World} {K : PySem.W.Frag} {mg : Str → Option Value} {base : Heap} {a : Ad}
def spFW (K : PySem.W.Frag) (CP CD CT : Addr) : Sp := fun vs H Q _ => ∃ (x y : V) (r : Option (List Ent)) (o : Option (List Str)), vs = [x, y] ∧ PsQ K CP CD CT H x r ∧ InQ K H y o ∧ (∀ es, r = some es → ∀ e ∈ es, VFine e) ∧ ∀ H', Same H H' → Q (optS (fw r o)) H'
theorem ok_fw (T : Tx P K mg a) : FnOk P w K mg base CX0 10 a.f_first_wrong a.d_first_wrong ["processes", "inputs"] (spFW K a.C_Process a.C_Deed a.C_Term) := by
  have F1 : FnOk P w K mg base CX0 1 a.f_are_processes a.d_are_processes ["value"] (spArePs K a.C_Process a.C_Deed a.C_Term) := ok_areps T
  have F2 : FnOk P w K mg base CX0 1 a.f_Process_name a.d_Process_name ["self"] (spPName K a.C_Process a.C_Deed a.C_Term) := ok_pname T
  have F3 : FnOk P w K mg base CX0 5 a.f_are_inputs a.d_are_inputs ["value", "processes"] (spAreIn K a.C_Process a.C_Deed a.C_Term) := ok_arein T
  have F4 : FnOk P w K mg base CX0 9 a.f_all_variables a.d_all_variables ["processes", "inputs"] (spAllV K a.C_Process a.C_Deed a.C_Term) := ok_allv T
  have F5 : FnOk P w K mg base CX0 9 a.f_all_constants a.d_all_constants ["processes"] (spAllC K a.C_Process a.C_Deed a.C_Term) := ok_allc T
  have F6 : FnOk P w K mg base CX0 3 a.f_Process_at_once a.d_Process_at_once ["self"] (spPOnce K a.C_Process a.C_Deed a.C_Term) := ok_ponce T
  refine T.first_wrong.fn.ok sc_first_wrong (fun vs H Q E h => ?_) (fun cdv A outer s H vs Q E hr h => ?_)
  · obtain ⟨x, y, r, o, rfl, _⟩ := h
    rfl
  · obtain ⟨x, y, r, o, rfl, hx, hy, fine, q⟩ := h
    have nd := sc_first_wrong.nd
    have hr1 : Room 1 _ := hr.mono (by decide)
    have hr2 : Room 2 _ := hr.mono (by decide)
    have hr3 : Room 3 _ := hr.mono (by decide)
    have hr5 : Room 5 _ := hr.mono (by decide)
    refine ⟨_, (pss_cons (ps_if (pt_not (pt_val (pe_cf T.are_processes F1 hr1 (pa_cons (pv 0) pa_nil))))
        (pss_one (ps_ret pe_str)) pss_nil)
      (pss_cons (ps_if (pt_cmpR op_lt (pe_callB (call_lenH (strSK P w)) rfl T.bi.len PySem.boot_len (pa_cons (pe_scH (strSK P w) (own := [("process", 2)]) rfl nd (pi_LT (K := K) (pv 0)) (blkOk_by (own := [("process", 2)]) (N := ["processes", "inputs", "process"]) (sc := defScope s_first_wrong) (by decide +kernel)) (fun _ _ _ _ _ => (pg_name (i := 2) nd rfl (Or.inl rfl))) (fun _ _ _ _ _ => pts_nil) (fun _ _ _ _ _ => (pe_prop (pv 2) T.c_Process T.p_Process_name F2 hr2 T.b_Process_name .nil pass0 rfl))) pa_nil)) (cb_len T.bi (pa_cons (pv 0) pa_nil)) (nomark _))
        (pss_one (ps_ret pe_str)) pss_nil)
      (pss_cons (ps_if (pt_not (pt_val (pe_cf T.are_inputs F3 hr5 (pa_cons (pv 1) (pa_cons (pv 0) pa_nil)))))
        (pss_one (ps_ret pe_str)) pss_nil)
      (pss_cons (ps_if (pt_cmpR op_gt (cb_len T.bi (pa_cons (pe_cf T.all_variables F4 hr (pa_cons (pv 0) (pa_cons (pv 1) pa_nil))) pa_nil)) (pe_gi T.v_MOST_VARIABLES) (nomark _))
        (pss_one (ps_ret pe_str)) pss_nil)
      (pss_cons (ps_if (pt_cmpR op_gt (cb_len T.bi (pa_cons (pe_cf T.all_constants F5 hr (pa_cons (pv 0) pa_nil)) pa_nil)) (pe_gi T.v_MOST_CONSTANTS) (nomark _))
        (pss_one (ps_ret pe_str)) pss_nil)
      (pss_cons (ps_if (pt_cmpR op_gt (pe_callB (cr_sum (by rfl)) rfl T.bi.sum PyProof.Rows.boot_sum (pa_cons (pe_lc (own := [("process", 2)]) (by rfl) nd (pi_LT (K := K) (pv 0)) (blkOk_by (own := [("process", 2)]) (N := ["processes", "inputs", "process"]) (sc := defScope s_first_wrong) (by decide +kernel)) (fun _ _ _ _ _ => (pg_name (i := 2) nd rfl (Or.inl rfl))) (fun _ _ _ _ _ => pts_nil) (fun _ _ _ _ _ => (cb_lenA (K := K) T.bi (pa_cons (pe_meth0 (pv 2) T.c_Process T.m_Process_at_once F6 hr3 T.b_Process_at_once .nil pass0) pa_nil)))) pa_nil)) (pe_gi T.v_MOST_AT_ONCE) (nomark _))
        (pss_one (ps_ret pe_str)) pss_nil)
      (pss_one (ps_ret pe_non)))))))), ?_⟩
    refine ⟨_, rfl, x, r, rfl, hx, fun H1 s1 => ⟨_, rfl, ?_⟩⟩
    cases r with
    | none => exact q H1 s1
    | some es =>
      obtain ⟨px, xs, rfl, hs, he, e1, e5⟩ := hx.some
      have fine := fine es rfl
      have le := he.length
      have hs1 := hs.same s1
      have he1 := PVs.same s1 he
      have sl := sl1k
      have lz : (es.map (·.1)).length = es.length := List.length_map ..
      refine LT_by rfl hs1 fun J G wk st D nD => ?_
      refine sch_it wk (fun i H' => Same H1 H' ∧ H' D = some (SetH (strSK P w) D (mors [] ((es.map (·.1)).take i)))) ⟨sNew nD, upd_same⟩ (fun i H' _ ⟨sm, _⟩ => st _ sm) ?_ ?_
      · rintro i x Ha Ha' hi ⟨sm, hD⟩ ⟨rfl, hx⟩
        obtain ⟨e, hE, p, rfl, pa⟩ := he1.get hx
        have pa := pa.same sm
        have pa2 := pa
        obtain ⟨dx, pw, pd, qs, z1, _⟩ := pa2
        refine ⟨rfl, _, rfl, p, dx, _, rfl, z1, p, _, _, _, rfl, pa, ?_⟩
        have h1 := mors_few (zs := es.map (·.1)) (i := i)
        refine ⟨e.1, _, rfl, hD, by unfold scanBound; omega, sUpd nD sm, ?_⟩
        rw [upd_same, mors_snoc (by rw [List.getElem?_map, hE]; rfl)]
      rintro H2 ⟨s2, hD⟩
      have hD : H2 D = some (SetH (strSK P w) D (mors [] ((es.map (·.1)).take xs.length))) := hD
      rw [le, ← lz, List.take_length] at hD
      refine ⟨D, _, rfl, hD, ?_⟩
      have s12 := s1.trans s2
      refine ⟨_, rfl, lenLT (hs.same s12).lt ?_⟩
      refine ⟨_, _, rfl, rfl, ⟨_, rfl, ?_⟩⟩
      have ml := mors_few (zs := es.map (·.1)) (i := es.length)
      rw [← lz, List.take_length] at ml
      by_cases hnd : (es.map (·.1)).Nodup
      · have e0 := mors_nodup_len.mpr hnd
        rw [decide_eq_false (by omega)]
        refine ⟨_, rfl, _, rfl, y, px, o, xs, es, rfl, hy.same s12, hs.same s12, PVs.same s12 he, by omega, fun e h => by have := (fine e h).1.1; omega, fun H3 s3 => ⟨_, rfl, ?_⟩⟩
        have s13 := s12.trans s3
        cases hin : inB es o with
        | false =>
          have ef : fw (some es) o = some ("inputs" : Str) := by
            rw [fw_some]
            rw [if_pos hnd, hin]
            rfl
          rw [ef] at q
          exact q _ s13
        | true =>
          cases o with
          | none => cases hin
          | some ins =>
            obtain ⟨py, rfl, hyS, ly, _⟩ := (hy.same s13).some
            refine ⟨_, rfl, _, rfl, px, xs, es, py, ins, rfl, hs.same s13, PVs.same s13 he, e5, fine, hyS, ly, fun qv H4 s4 nv hv => lenL (.inl (.inl hv)) ⟨_, _, rfl, rfl, ⟨_, rfl, ?_⟩⟩⟩
            rw [List.length_map]
            have s14 := s13.trans s4
            by_cases hv5 : 5 < (allVars es ins).length
            · rw [decide_eq_true (by omega)]
              have ef : fw (some es) (some ins) = some ("variables" : Str) := by
                rw [fw_some]
                rw [if_pos hnd, if_pos hin, Option.getD_some, if_pos hv5]
              rw [ef] at q
              exact q _ s14
            · rw [decide_eq_false (by omega)]
              refine ⟨_, rfl, px, xs, es, rfl, hs.same s14, PVs.same s14 he, e5, fine, fun qc H5 s5 nc hc => lenL (.inl (.inl hc)) ⟨_, _, rfl, rfl, ⟨_, rfl, ?_⟩⟩⟩
              rw [List.length_map]
              have s15 := s14.trans s5
              by_cases hc2 : 2 < (allConsts es).length
              · rw [decide_eq_true (by omega)]
                have ef : fw (some es) (some ins) = some ("constants" : Str) := by
                  rw [fw_some]
                  rw [if_pos hnd, if_pos hin, Option.getD_some, if_neg hv5, if_pos hc2]
                rw [ef] at q
                exact q _ s15
              · rw [decide_eq_false (by omega)]
                have he5 := PVs.same s15 he
                refine LT_by rfl (hs.same s15) fun J6 G6 wk6 st6 D6 nD6 => ?_
                refine lc_it wk6 (fun i H' => H' D6 = some (.lst (((es.take i).map fun e => ((e.2.2.countP fun d => !d.2.2 : Nat) : Int)).map V.int)) ∧ Same H5 H') ⟨upd_same, sNew nD6⟩ (fun _ _ _ ⟨_, sm⟩ => st6 _ sm) ?_ ?_
                · rintro i x Ha Ha' hi ⟨hA, sm⟩ ⟨rfl, hx⟩
                  obtain ⟨e, hE, p, rfl, pa⟩ := he5.get hx
                  have pa := pa.same sm
                  have pa2 := pa
                  obtain ⟨dx, pw, pd, qs, z1, _⟩ := pa2
                  have fe := (fine e (List.mem_of_getElem? hE)).1.1
                  refine ⟨rfl, _, rfl, p, dx, _, rfl, z1, lkP, p, _, _, _, rfl, pa, by omega, fun qo Hb sb nb hb => lenL (.inl (.inl hb)) ⟨_, sb _ _ hA, ?_, ?_, sUpd nD6 (sm.trans sb)⟩⟩
                  · have hi' : i < xs.length := hi
                    rw [List.length_map, List.length_map, List.length_take]
                    omega
                  · rw [upd_same, take_snoc hE, List.map_append, List.map_append, List.length_map, dOnce_len]
                    rfl
                · rintro H6 ⟨hA, sm⟩
                  have hA : H6 D6 = some (.lst (((es.take xs.length).map fun e => ((e.2.2.countP fun d => !d.2.2 : Nat) : Int)).map V.int)) := hA
                  rw [le, List.take_length] at hA
                  refine ⟨D6, _, rfl, .inl (.inl hA), ⟨_, _, rfl, rfl, ⟨_, rfl, ?_⟩⟩⟩
                  have es0 : (es.map fun e => ((e.2.2.countP fun d => !d.2.2 : Nat) : Int)).sum = (atOnce es : Nat) := sum_cast es
                  rw [es0]
                  have s16 := s15.trans sm
                  by_cases h8 : 8 < atOnce es
                  · rw [decide_eq_true (by omega)]
                    have ef : fw (some es) (some ins) = some ("deeds" : Str) := by
                      rw [fw_some]
                      rw [if_pos hnd, if_pos hin, Option.getD_some, if_neg hv5, if_neg hc2, if_pos h8]
                    rw [ef] at q
                    exact q _ s16
                  · rw [decide_eq_false (by omega)]
                    have ef : fw (some es) (some ins) = none := by
                      rw [fw_some]
                      rw [if_pos hnd, if_pos hin, Option.getD_some, if_neg hv5, if_neg hc2, if_neg h8]
                    rw [ef] at q
                    exact q _ s16
      · have e0 : (mors [] (es.map (·.1))).length ≠ (es.map (·.1)).length := fun e => hnd (mors_nodup_len.mp e)
        rw [decide_eq_true (by omega)]
        have ef : fw (some es) o = some ("names" : Str) := by
          rw [fw_some]
          rw [if_neg hnd]
        rw [ef] at q
        exact q _ s12
end
end Z
set_option maxRecDepth 100000
set_option maxHeartbeats 4000000
set_option pp.maxSteps 500
namespace Z
open PySem PySem.Spec PyProof.Rows L2
theorem putN {f : Str} {v : V} : ∀ {fs : List (Str × V)}, (∀ q ∈ fs, q.1 ≠ f) → putF f v fs = fs ++ [(f, v)]
  | [], _ => rfl
  | (g, x) :: r, h => by
    unfold putF
    rw [if_neg (h (g, x) List.mem_cons_self), putN fun q hq => h q (List.mem_cons_of_mem _ hq)]
    rfl
def gflds (pl pt pg pw pn : Addr) : List (Str × V) := [("line", .ref pl), ("titles", .ref pt), ("given", .ref pg), ("words", .ref pw), ("numbers", .ref pn)]
def ProgAt (K : PySem.W.Frag) (CG CP CD CT : Addr) (H : Hp) (p : Addr) (es : List Ent) (ins : List Str) : Prop := ∃ dx pl pt pg pw pn xs, H p = some (.ins CG dx (gflds pl pt pg pw pn)) ∧ H pl = some (.lst xs) ∧ PVs K CP CD CT H xs es ∧ H pt = some (.lst ((es.map (·.1)).map V.str)) ∧ H pg = some (.lst (ins.map V.str)) ∧ H pw = some (.lst ((allVars es ins).map V.str)) ∧ H pn = some (.lst ((allConsts es).map V.int))
theorem ProgAt.same {K : PySem.W.Frag} {CG CP CD CT : Addr} {H H' : Hp} {p : Addr} {es : List Ent} {ins : List Str} (s : Same H H') (h : ProgAt K CG CP CD CT H p es ins) : ProgAt K CG CP CD CT H' p es ins := by
  obtain ⟨dx, pl, pt, pg, pw, pn, xs, h1, h2, h3, h4, h5, h6, h7⟩ := h
  exact ⟨dx, pl, pt, pg, pw, pn, xs, s _ _ h1, s _ _ h2, PVs.same s h3, s _ _ h4, s _ _ h5, s _ _ h6, s _ _ h7⟩
theorem PV.but {K : PySem.W.Frag} {CP CD CT : Addr} {H H' : Hp} {p C dx : Addr} {v : V} {e : Ent} (hp : H p = some (.ins C dx [])) (b : But p H H') (h : PV K CP CD CT H v e) : PV K CP CD CT H' v e := by
  obtain ⟨q, rfl, dx', pw, pd, qs, h1, h2, h3, h4⟩ := h
  exact ⟨q, rfl, dx', pw, pd, qs, b _ _ (ne_of h1 hp (by intro z; cases z)) h1, b _ _ (ne_of h2 hp (by intro z; cases z)) h2, b _ _ (ne_of h3 hp (by intro z; cases z)) h3, h4.but hp b⟩
section
variable {P : Program} {w : World} {K : PySem.W.Frag} {mg : Str → Option Value} {base : Heap} {a : Ad}
def spGInit (K : PySem.W.Frag) (CG CP CD CT X : Addr) : Sp := fun vs H Q E => ∃ (p dx : Addr) (x y : V) (r : Option (List Ent)) (o : Option (List Str)), vs = [.ref p, x, y] ∧ H p = some (.ins CG dx []) ∧ PsQ K CP CD CT H x r ∧ InQ K H y o ∧ (∀ es, r = some es → ∀ e ∈ es, VFine e) ∧
  (∀ s, fw r o = some s → FliesF E X "part" H (.str s)) ∧ (∀ es ins H', r = some es → o = some ins → fw r o = none → But p H H' → ProgAt K CG CP CD CT H' p es ins → Q .non H')
theorem ok_ginit (T : Tx P K mg a) : FnOk P w K mg base (L2.CX P w) 11 a.f_Program___init__ a.d_Program___init__ ["self", "processes", "inputs"] (spGInit K a.C_Program a.C_Process a.C_Deed a.C_Term a.C_NoProgram) := by
  have F1 : FnOk P w K mg base CX0 10 a.f_first_wrong a.d_first_wrong ["processes", "inputs"] (spFW K a.C_Process a.C_Deed a.C_Term) := ok_fw T
  have F2 : FnOk P w K mg base CX0 1 a.f_Process_name a.d_Process_name ["self"] (spPName K a.C_Process a.C_Deed a.C_Term) := ok_pname T
  have F4 : FnOk P w K mg base CX0 9 a.f_all_variables a.d_all_variables ["processes", "inputs"] (spAllV K a.C_Process a.C_Deed a.C_Term) := ok_allv T
  have F5 : FnOk P w K mg base CX0 9 a.f_all_constants a.d_all_constants ["processes"] (spAllC K a.C_Process a.C_Deed a.C_Term) := ok_allc T
  refine T.Program___init__.okX sc_Program___init__ (fun vs H Q E h => ?_) (fun cdv A outer s H vs Q E hr h => ?_)
  · obtain ⟨p, dx, x, y, r, o, rfl, _⟩ := h
    rfl
  · obtain ⟨p, dx, x, y, r, o, rfl, hp, hx, hy, fine, q1, q2⟩ := h
    have nd := sc_Program___init__.nd
    have hr2 : Room 2 _ := hr.mono (by decide)
    have hr9 : Room 9 _ := hr.mono (by decide)
    refine ⟨_, (pss_cons (ps_set (i := 3) nd rfl (Or.inl rfl) (pe_cf T.first_wrong F1 hr (pa_cons (pv 1) (pa_cons (pv 2) pa_nil))))
      (pss_cons (ps_if (pt_cmp (pc_notN (pv 3))) (pss_one (ps_raiseT (takes_of rfl rfl rfl rfl) T.e_NoProgram hr (pa_cons (pv 3) pa_nil))) pss_nil)
      (pss_cons (ps_fld (pv 0) (cb_list T.bi (pa_cons (pv 1) pa_nil)) rfl)
      (pss_cons (ps_fld (pv 0) (pe_lc (own := [("process", 4)]) (by rfl) nd (pi_LT (K := K) (pv 1)) (blkOk_by (own := [("process", 4)]) (N := ["self", "processes", "inputs", "wrong", "process"]) (sc := defScope s_Program___init__) (by decide +kernel)) (fun _ _ _ _ _ => (pg_name (i := 4) nd rfl (Or.inl rfl))) (fun _ _ _ _ _ => pts_nil) (fun _ _ _ _ _ => (pe_prop (pv 4) T.c_Process T.p_Process_name F2 hr2 T.b_Process_name .nil pass0 rfl))) rfl)
      (pss_cons (ps_fld (pv 0) (cb_list T.bi (pa_cons (pv 2) pa_nil)) rfl)
      (pss_cons (ps_fld (pv 0) (pe_cf T.all_variables F4 hr9 (pa_cons (pv 1) (pa_cons (pv 2) pa_nil))) rfl)
      (pss_one (ps_fld (pv 0) (pe_cf T.all_constants F5 hr9 (pa_cons (pv 1) pa_nil)) rfl)))))))), ?_⟩
    refine ⟨_, rfl, _, rfl, x, y, r, o, rfl, hx, hy, fine, fun H1 s1 => ?_⟩
    cases hf : fw r o with
    | some z =>
      refine ⟨_, rfl, ?_⟩
      refine ⟨_, rfl, ?_⟩
      exact ⟨_, rfl, _, rfl, fun d hd => q1 z hf d H1 s1 hd⟩
    | none =>
      cases r with
      | none => cases hf
      | some es =>
        obtain ⟨px, xs, rfl, hs, he, e1, e5⟩ := hx.some
        cases o with
        | none =>
          rw [fw_some] at hf
          split at hf
          · cases hf
          · cases hf
        | some ins =>
          obtain ⟨py, rfl, hyS, ly, _⟩ := hy.some
          have fine := fine es rfl
          have le := he.length
          have sl := sl1k
          refine ⟨_, rfl, ?_⟩
          refine ⟨_, rfl, ?_⟩
          have hp1 := s1 _ _ hp
          have b0 : But p H H1 := But.same s1 p
          have sq0 := hs.ins hp b0
          have se0 : PVs K a.C_Process a.C_Deed a.C_Term H1 xs es := he.imp fun _ _ h => h.but hp b0
          refine ⟨_, rfl, listL sq0.lt fun pl Hs0 npl spl hpl => ?_⟩
          have hq0 := spl _ _ hp1
          refine ⟨_, rfl, p, _, dx, _, rfl, hq0, T.c_Program, T.no_Program_line, by show 0 < 1000; decide, ?_⟩
          rw [show putF "line" (.ref pl) ([] : List (Str × V)) = ([("line", .ref pl)] : List (Str × V)) from putN all_nil]
          have d0 : pl ≠ p := ne_of hpl hq0 (by intro z; cases z)
          have u0 : But p H (upd Hs0 p (.ins a.C_Program dx [("line", .ref pl)])) := (b0.trans (But.same spl p)).trans But.upd
          have hu0 : (upd Hs0 p (.ins a.C_Program dx [("line", .ref pl)])) p = some (.ins a.C_Program dx [("line", .ref pl)]) := upd_same
          have k0pl : (upd Hs0 p (.ins a.C_Program dx [("line", .ref pl)])) pl = some (.lst xs) := by rw [upd_ne d0]; exact hpl
          generalize upd Hs0 p (.ins a.C_Program dx [("line", .ref pl)]) = Ha0 at u0 hu0 k0pl ⊢
          have sq1 := hs.ins hp u0
          have se1 : PVs K a.C_Process a.C_Deed a.C_Term Ha0 xs es := he.imp fun _ _ h => h.but hp u0
          refine LT_by rfl sq1 fun J G wk st pt npt => ?_
          refine lc_it wk (fun i H' => H' pt = some (.lst (((es.take i).map (·.1)).map V.str)) ∧ Same Ha0 H') ⟨upd_same, sNew npt⟩ (fun _ _ _ ⟨_, sm⟩ => st _ sm) ?_ ?_
          · rintro i x Hx Hx' hi ⟨hA, sm⟩ ⟨rfl, hx⟩
            obtain ⟨e, hE, q, rfl, pa⟩ := se1.get hx
            have pa := pa.same sm
            have pa2 := pa
            obtain ⟨dx2, pw2, pd2, qs2, z1, _⟩ := pa2
            refine ⟨rfl, _, rfl, q, dx2, _, rfl, z1, q, _, _, _, rfl, pa, _, hA, ?_, ?_, sUpd npt sm⟩
            · have hi' : i < xs.length := hi
              rw [List.length_map, List.length_map, List.length_take]
              omega
            · rw [upd_same, take_snoc hE, List.map_append, List.map_append]
              rfl
          rintro Hs1 ⟨hpt, spt⟩
          have hpt : Hs1 pt = some (.lst (((es.take xs.length).map (·.1)).map V.str)) := hpt
          rw [le, List.take_length] at hpt
          have hq1 := spt _ _ hu0
          refine ⟨_, rfl, p, _, dx, _, rfl, hq1, T.c_Program, T.no_Program_titles, by show 1 < 1000; decide, ?_⟩
          rw [show putF "titles" (.ref pt) ([("line", .ref pl)] : List (Str × V)) = ([("line", .ref pl), ("titles", .ref pt)] : List (Str × V)) from putN (all_cons (show ("line" : Str) ≠ "titles" by decide) all_nil)]
          have d1 : pt ≠ p := ne_of hpt hq1 (by intro z; cases z)
          have u1 : But p H (upd Hs1 p (.ins a.C_Program dx [("line", .ref pl), ("titles", .ref pt)])) := (u0.trans (But.same spt p)).trans But.upd
          have hu1 : (upd Hs1 p (.ins a.C_Program dx [("line", .ref pl), ("titles", .ref pt)])) p = some (.ins a.C_Program dx [("line", .ref pl), ("titles", .ref pt)]) := upd_same
          have k1pl : (upd Hs1 p (.ins a.C_Program dx [("line", .ref pl), ("titles", .ref pt)])) pl = some (.lst xs) := by rw [upd_ne d0]; exact (spt _ _ k0pl)
          have k1pt : (upd Hs1 p (.ins a.C_Program dx [("line", .ref pl), ("titles", .ref pt)])) pt = some (.lst ((es.map (·.1)).map V.str)) := by rw [upd_ne d1]; exact hpt
          generalize upd Hs1 p (.ins a.C_Program dx [("line", .ref pl), ("titles", .ref pt)]) = Ha1 at u1 hu1 k1pl k1pt ⊢
          have sq2 := hs.ins hp u1
          have se2 : PVs K a.C_Process a.C_Deed a.C_Term Ha1 xs es := he.imp fun _ _ h => h.but hp u1
          refine ⟨_, rfl, listL (hyS.ins hp u1).lt fun pg Hs2 npg spg hpg => ?_⟩
          have hq2 := spg _ _ hu1
          refine ⟨_, rfl, p, _, dx, _, rfl, hq2, T.c_Program, T.no_Program_given, by show 2 < 1000; decide, ?_⟩
          rw [show putF "given" (.ref pg) ([("line", .ref pl), ("titles", .ref pt)] : List (Str × V)) = ([("line", .ref pl), ("titles", .ref pt), ("given", .ref pg)] : List (Str × V)) from putN (all_cons (show ("line" : Str) ≠ "given" by decide) (all_cons (show ("titles" : Str) ≠ "given" by decide) all_nil))]
          have d2 : pg ≠ p := ne_of hpg hq2 (by intro z; cases z)
          have u2 : But p H (upd Hs2 p (.ins a.C_Program dx [("line", .ref pl), ("titles", .ref pt), ("given", .ref pg)])) := (u1.trans (But.same spg p)).trans But.upd
          have hu2 : (upd Hs2 p (.ins a.C_Program dx [("line", .ref pl), ("titles", .ref pt), ("given", .ref pg)])) p = some (.ins a.C_Program dx [("line", .ref pl), ("titles", .ref pt), ("given", .ref pg)]) := upd_same
          have k2pl : (upd Hs2 p (.ins a.C_Program dx [("line", .ref pl), ("titles", .ref pt), ("given", .ref pg)])) pl = some (.lst xs) := by rw [upd_ne d0]; exact (spg _ _ k1pl)
          have k2pt : (upd Hs2 p (.ins a.C_Program dx [("line", .ref pl), ("titles", .ref pt), ("given", .ref pg)])) pt = some (.lst ((es.map (·.1)).map V.str)) := by rw [upd_ne d1]; exact (spg _ _ k1pt)
          have k2pg : (upd Hs2 p (.ins a.C_Program dx [("line", .ref pl), ("titles", .ref pt), ("given", .ref pg)])) pg = some (.lst (ins.map V.str)) := by rw [upd_ne d2]; exact hpg
          generalize upd Hs2 p (.ins a.C_Program dx [("line", .ref pl), ("titles", .ref pt), ("given", .ref pg)]) = Ha2 at u2 hu2 k2pl k2pt k2pg ⊢
          have sq3 := hs.ins hp u2
          have se3 : PVs K a.C_Process a.C_Deed a.C_Term Ha2 xs es := he.imp fun _ _ h => h.but hp u2
          refine ⟨_, rfl, _, rfl, px, xs, es, py, ins, rfl, sq3, se3, e5, fine, hyS.ins hp u2, ly, fun pw Hs3 spw npw hpw => ?_⟩
          have hq3 := spw _ _ hu2
          refine ⟨_, rfl, p, _, dx, _, rfl, hq3, T.c_Program, T.no_Program_words, by show 3 < 1000; decide, ?_⟩
          rw [show putF "words" (.ref pw) ([("line", .ref pl), ("titles", .ref pt), ("given", .ref pg)] : List (Str × V)) = ([("line", .ref pl), ("titles", .ref pt), ("given", .ref pg), ("words", .ref pw)] : List (Str × V)) from putN (all_cons (show ("line" : Str) ≠ "words" by decide) (all_cons (show ("titles" : Str) ≠ "words" by decide) (all_cons (show ("given" : Str) ≠ "words" by decide) all_nil)))]
          have d3 : pw ≠ p := ne_of hpw hq3 (by intro z; cases z)
          have u3 : But p H (upd Hs3 p (.ins a.C_Program dx [("line", .ref pl), ("titles", .ref pt), ("given", .ref pg), ("words", .ref pw)])) := (u2.trans (But.same spw p)).trans But.upd
          have hu3 : (upd Hs3 p (.ins a.C_Program dx [("line", .ref pl), ("titles", .ref pt), ("given", .ref pg), ("words", .ref pw)])) p = some (.ins a.C_Program dx [("line", .ref pl), ("titles", .ref pt), ("given", .ref pg), ("words", .ref pw)]) := upd_same
          have k3pl : (upd Hs3 p (.ins a.C_Program dx [("line", .ref pl), ("titles", .ref pt), ("given", .ref pg), ("words", .ref pw)])) pl = some (.lst xs) := by rw [upd_ne d0]; exact (spw _ _ k2pl)
          have k3pt : (upd Hs3 p (.ins a.C_Program dx [("line", .ref pl), ("titles", .ref pt), ("given", .ref pg), ("words", .ref pw)])) pt = some (.lst ((es.map (·.1)).map V.str)) := by rw [upd_ne d1]; exact (spw _ _ k2pt)
          have k3pg : (upd Hs3 p (.ins a.C_Program dx [("line", .ref pl), ("titles", .ref pt), ("given", .ref pg), ("words", .ref pw)])) pg = some (.lst (ins.map V.str)) := by rw [upd_ne d2]; exact (spw _ _ k2pg)
          have k3pw : (upd Hs3 p (.ins a.C_Program dx [("line", .ref pl), ("titles", .ref pt), ("given", .ref pg), ("words", .ref pw)])) pw = some (.lst ((allVars es ins).map V.str)) := by rw [upd_ne d3]; exact hpw
          generalize upd Hs3 p (.ins a.C_Program dx [("line", .ref pl), ("titles", .ref pt), ("given", .ref pg), ("words", .ref pw)]) = Ha3 at u3 hu3 k3pl k3pt k3pg k3pw ⊢
          have sq4 := hs.ins hp u3
          have se4 : PVs K a.C_Process a.C_Deed a.C_Term Ha3 xs es := he.imp fun _ _ h => h.but hp u3
          refine ⟨_, rfl, px, xs, es, rfl, sq4, se4, e5, fine, fun pn Hs4 spn npn hpn => ?_⟩
          have hq4 := spn _ _ hu3
          refine ⟨_, rfl, p, _, dx, _, rfl, hq4, T.c_Program, T.no_Program_numbers, by show 4 < 1000; decide, ?_⟩
          rw [show putF "numbers" (.ref pn) ([("line", .ref pl), ("titles", .ref pt), ("given", .ref pg), ("words", .ref pw)] : List (Str × V)) = ([("line", .ref pl), ("titles", .ref pt), ("given", .ref pg), ("words", .ref pw), ("numbers", .ref pn)] : List (Str × V)) from putN (all_cons (show ("line" : Str) ≠ "numbers" by decide) (all_cons (show ("titles" : Str) ≠ "numbers" by decide) (all_cons (show ("given" : Str) ≠ "numbers" by decide) (all_cons (show ("words" : Str) ≠ "numbers" by decide) all_nil))))]
          have d4 : pn ≠ p := ne_of hpn hq4 (by intro z; cases z)
          have u4 : But p H (upd Hs4 p (.ins a.C_Program dx [("line", .ref pl), ("titles", .ref pt), ("given", .ref pg), ("words", .ref pw), ("numbers", .ref pn)])) := (u3.trans (But.same spn p)).trans But.upd
          have hu4 : (upd Hs4 p (.ins a.C_Program dx [("line", .ref pl), ("titles", .ref pt), ("given", .ref pg), ("words", .ref pw), ("numbers", .ref pn)])) p = some (.ins a.C_Program dx [("line", .ref pl), ("titles", .ref pt), ("given", .ref pg), ("words", .ref pw), ("numbers", .ref pn)]) := upd_same
          have k4pl : (upd Hs4 p (.ins a.C_Program dx [("line", .ref pl), ("titles", .ref pt), ("given", .ref pg), ("words", .ref pw), ("numbers", .ref pn)])) pl = some (.lst xs) := by rw [upd_ne d0]; exact (spn _ _ k3pl)
          have k4pt : (upd Hs4 p (.ins a.C_Program dx [("line", .ref pl), ("titles", .ref pt), ("given", .ref pg), ("words", .ref pw), ("numbers", .ref pn)])) pt = some (.lst ((es.map (·.1)).map V.str)) := by rw [upd_ne d1]; exact (spn _ _ k3pt)
          have k4pg : (upd Hs4 p (.ins a.C_Program dx [("line", .ref pl), ("titles", .ref pt), ("given", .ref pg), ("words", .ref pw), ("numbers", .ref pn)])) pg = some (.lst (ins.map V.str)) := by rw [upd_ne d2]; exact (spn _ _ k3pg)
          have k4pw : (upd Hs4 p (.ins a.C_Program dx [("line", .ref pl), ("titles", .ref pt), ("given", .ref pg), ("words", .ref pw), ("numbers", .ref pn)])) pw = some (.lst ((allVars es ins).map V.str)) := by rw [upd_ne d3]; exact (spn _ _ k3pw)
          have k4pn : (upd Hs4 p (.ins a.C_Program dx [("line", .ref pl), ("titles", .ref pt), ("given", .ref pg), ("words", .ref pw), ("numbers", .ref pn)])) pn = some (.lst ((allConsts es).map V.int)) := by rw [upd_ne d4]; exact hpn
          exact q2 es ins _ rfl rfl hf u4 ⟨dx, pl, pt, pg, pw, pn, xs, hu4, k4pl, he.imp fun _ _ h => h.but hp u4, k4pt, k4pg, k4pw, k4pn⟩
end
end Z
set_option maxRecDepth 100000
set_option maxHeartbeats 4000000
set_option pp.maxSteps 500
namespace Z
open PySem PySem.Spec PyProof.Rows L2
theorem ProcIn.weak {G G' : Hp} {K : PySem.W.Frag} {CP CD CT : Addr} {H : Hp} {p : Addr} {s : Str} {wl : List Str} {dl : List DD} (sG : Same G' G) (h : ProcIn G K CP CD CT H p s wl dl) : ProcIn G' K CP CD CT H p s wl dl := by
  obtain ⟨dx, pw, pd, qs, h1, h2, h3, h4, h5, h6⟩ := h
  exact ⟨dx, pw, pd, qs, h1, h2, h3, h4, sG.non h5, sG.non h6⟩
theorem make_proc {K : PySem.W.Frag} {H : Hp} {z : Str} {ws ds : V} {wl : List Str} {dl : List DD} {CP CD CT X o dx : Addr} {R : VK} {E : XK} (ho : H o = none) (hdx : H dx = none) (ne : dx ≠ o) (hn : nameB (.str z) = true) (hl : z.length ≤ 100) (hw : UWL K H ws true wl) (hd : DQ K CD CT H ds (some dl))
    (q : ∀ H', Same H H' → ProcIn H K CP CD CT H' o z wl dl → R .non H') : spPInit K CP CD CT X [.ref o, .str z, ws, ds] (upd (upd H dx (.own o)) o (.ins CP dx [])) R E := by
  have sm : Same H (upd (upd H dx (.own o)) o (.ins CP dx [])) := (sNew hdx).trans (sNew (by rw [upd_ne ne.symm]; exact ho))
  refine ⟨o, dx, .str z, ws, ds, true, wl, some dl, rfl, upd_same, wq_str hl, hw.same sm, hd.same sm, fun e => ?_, fun _ e => (nomatch e), fun _ _ e => (nomatch e), fun s dl' H' e1 e2 e3 e4 _ _ b hP => ?_⟩
  · rw [hn] at e
    cases e
  · cases e1
    cases e4
    obtain ⟨dx', pw, pd, qs, h1, h2, h3, h4, h5, h6⟩ := hP
    exact q H' (fun c u hc => b c u (ne_of_none hc ho) (sm _ _ hc)) ⟨dx', pw, pd, qs, h1, h2, h3, h4, sm.non h5, sm.non h6⟩
section
variable {P : Program} {w : World} {K : PySem.W.Frag} {mg : Str → Option Value} {base : Heap} {a : Ad}
def spGLen (K : PySem.W.Frag) (CG CP CD CT : Addr) : Sp := fun vs H Q _ => ∃ p es ins, vs = [.ref p] ∧ ProgAt K CG CP CD CT H p es ins ∧ Q (.int es.length) H
theorem ok_glen (T : Tx P K mg a) : FnOk P w K mg base CX0 1 a.f_Program___len__ a.d_Program___len__ ["self"] (spGLen K a.C_Program a.C_Process a.C_Deed a.C_Term) := by
  refine T.Program___len__.ok sc_Program___len__ (fun vs H Q E h => ?_) (fun cdv A outer s H vs Q E hr h => ?_)
  · obtain ⟨p, es, ins, rfl, _⟩ := h
    rfl
  · obtain ⟨p, es, ins, rfl, ⟨dx, pl, pt, pg, pw, pn, xs, h1, h2, h3, _⟩, k⟩ := h
    refine ⟨_, (pss_one (ps_ret (cb_len T.bi (pa_cons (pe_fld (pv 0) rfl) pa_nil)))), ?_⟩
    refine ⟨_, rfl, p, _, dx, _, _, rfl, h1, T.c_Program, T.no_Program_line, rfl, lenL (.inl (.inl h2)) ?_⟩
    rw [h3.length]
    exact k
def EMade (e : Ent) : Prop := nameB (.str e.1) = true ∧ e.1.length ≤ 100 ∧ e.2.1.Nodup ∧ (∀ y ∈ e.2.1, Word y) ∧ 1 ≤ e.2.1.length ∧ e.2.1.length ≤ 4 ∧ 1 ≤ e.2.2.length ∧ e.2.2.length ≤ 4 ∧ ∀ d ∈ e.2.2, Word d.1 ∧ d.2.1.Ok ∧ d.2.1.deep ≤ 3
def spMade (K : PySem.W.Frag) (CP CD CT : Addr) : Sp := fun vs H Q _ => ∃ (v : V) (e : Ent) (N : Addr → Prop), vs = [v] ∧ EntTup N K H v e ∧ EMade e ∧ ∀ q H', Same H H' → ProcIn H K CP CD CT H' q e.1 e.2.1 e.2.2 → Q (.ref q) H'
theorem ok_made (T : Tx P K mg a) : FnOk P w K mg base CX0 16 a.f__law_made_process a.d__law_made_process ["entry"] (spMade K a.C_Process a.C_Deed a.C_Term) := by
  have F1 : FnOk P w K mg base (L2.CX P w) 14 a.f_Process___init__ a.d_Process___init__ ["self", "name", "waits", "deeds"] (spPInit K a.C_Process a.C_Deed a.C_Term a.C_NoProcess) := ok_pinit T
  have F2 : FnOk P w K mg base CX0 5 a.f__law_deed_text a.d__law_deed_text ["deed"] (spDText K) := ok_dtext T
  refine T._law_made_process.fn.ok sc__law_made_process (fun vs H Q E h => ?_) (fun cdv A outer s H vs Q E hr h => ?_)
  · obtain ⟨v, e, N, rfl, _⟩ := h
    rfl
  · obtain ⟨v, e, N, rfl, ⟨p, wl, dl, us, rfl, t1, t2, t3, t4, _⟩, ⟨m1, m2, m3, m4, m5, m6, m7, m8, m9⟩, k⟩ := h
    have nd := sc__law_made_process.nd
    have hr5 : Room 5 _ := hr.mono (by decide)
    refine ⟨_, (pss_one (ps_ret (pe_make T.mk_Process F1 hr rfl T.g_Process T.b_Process___init__ .nil passL (pa_cons (pe_ix ix_A (pv 0) pe_int (fun _ _ => rfl)) (pa_cons (pe_ix ix_A (pv 0) pe_int (fun _ _ => rfl)) (pa_cons (pe_lc (own := [("deed", 1)]) (by rfl) nd (pi_list (pe_ix ix_A (pv 0) pe_int (fun _ _ => rfl))) (blkOk_by (own := [("deed", 1)]) (N := ["entry", "deed"]) (sc := defScope s__law_made_process) (by decide +kernel)) (fun _ _ _ _ _ => (pg_name (i := 1) nd rfl (Or.inl rfl))) (fun _ _ _ _ _ => pts_nil) (fun _ _ _ _ _ => (pe_cf T._law_deed_text F2 hr5 (pa_cons (pv 1) pa_nil)))) pa_nil)))))), ?_⟩
    have tt : SqT K H p [.str e.1, .ref wl, .ref dl] := .inl (.inl t1)
    refine ⟨_, rfl, ixT (i := 0) tt rfl ?_⟩
    refine ⟨_, rfl, ixT (i := 1) tt rfl ?_⟩
    refine ⟨_, rfl, ixT (i := 2) tt rfl ⟨dl, rfl, ⟨_, .inl (.inl t3)⟩, fun D nD => ?_⟩⟩
    have l4 := t4.length
    refine lc_it (walk_list (xs := us)) (fun i H' => Same H H' ∧ H' D = some (.lst ((e.2.2.take i).map fun d => V.str (dtext d.1 d.2.1 d.2.2)))) ⟨sNew nD, upd_same⟩ (fun _ _ _ ⟨sm, _⟩ => .inl (.inl (sm _ _ t3))) ?_ ?_
    · rintro j x Ha Ha' hj ⟨sm, hA⟩ ⟨rfl, hx⟩
      have hj' : j < us.length := hj
      obtain ⟨dd, hD, dt⟩ := t4.get hx
      obtain ⟨g1, g2, g3⟩ := m9 dd (List.mem_of_getElem? hD)
      refine ⟨rfl, _, rfl, x, dd, rfl, dt.tk (TK.of sm), g1, g2, g3, fun Hb sb => ⟨_, sb _ _ hA, ?_, sUpd nD (sm.trans sb), ?_⟩⟩
      · rw [List.length_map, List.length_take]
        have := sl1k
        omega
      · rw [upd_same, take_snoc hD, List.map_append]
        rfl
    rintro H5 ⟨s5, hD⟩
    have hD : H5 D = some (.lst ((e.2.2.take us.length).map fun d => V.str (dtext d.1 d.2.1 d.2.2))) := hD
    rw [show e.2.2.take us.length = e.2.2 by rw [l4, List.take_length]] at hD
    intro o dx no ndx ne
    exact make_proc no ndx ne m1 m2 (uwl_strs (.inl (s5 _ _ t2)) m3 m4 m5 m6) (dq_texts (.inl hD) m9 m7 m8) fun H6 s6 hP => ⟨rfl, k o H6 (s5.trans s6) (hP.weak s5)⟩
end
end Z
set_option maxRecDepth 100000
set_option maxHeartbeats 4000000
set_option pp.maxSteps 500
namespace Z
open PySem PySem.Spec PyProof.Rows L2
theorem mem_ascS {y : Str} {l : List Str} : y ∈ ascS l ↔ y ∈ l := Ord.mem_asc
theorem mem_ascI {y : Int} {l : List Int} : y ∈ ascI l ↔ y ∈ l := Ord.mem_asc
theorem ascS_few {l m : List Str} (h : ∀ y ∈ l, y ∈ m) : (ascS l).length ≤ m.length := le_cover (Ord.up_nodup Ord.up_asc) fun y hy => h y (mem_ascS.mp hy)
theorem ascI_few {l m : List Int} (h : ∀ y ∈ l, y ∈ m) : (ascI l).length ≤ m.length := le_cover (Ord.up_nodup Ord.up_asc) fun y hy => h y (mem_ascI.mp hy)
theorem mem_flat {α β : Type} {f : α → List β} {xs : List α} {y : β} : y ∈ (xs.map f).flatten ↔ ∃ x ∈ xs, y ∈ f x := by
  rw [List.mem_flatten]
  constructor
  · rintro ⟨l, hl, hy⟩
    obtain ⟨x, hx, rfl⟩ := List.mem_map.mp hl
    exact ⟨x, hx, hy⟩
  · rintro ⟨x, hx, hy⟩
    exact ⟨f x, List.mem_map.mpr ⟨x, hx, rfl⟩, hy⟩
theorem mem_dWrites {ds : List DD} {y : Str} : y ∈ dWrites ds ↔ ∃ d ∈ ds, d.1 = y := by
  unfold dWrites
  rw [mem_ascS, List.mem_map]
theorem mem_dReads {ds : List DD} {y : Str} : y ∈ dReads ds ↔ ∃ d ∈ ds, y ∈ d.2.1.ws := by
  unfold dReads
  rw [mem_ascS, mem_flat]
  simp only [mem_ascS]
theorem mem_dConsts {ds : List DD} {y : Int} : y ∈ dConsts ds ↔ ∃ d ∈ ds, y ∈ d.2.1.ns := by
  unfold dConsts
  rw [mem_ascI, mem_flat]
  simp only [mem_ascI]
theorem mem_eVars {e : Ent} {y : Str} : y ∈ eVars e ↔ y ∈ e.2.1 ∨ (∃ d ∈ e.2.2, y ∈ d.2.1.ws) ∨ ∃ d ∈ e.2.2, d.1 = y := by
  unfold eVars
  rw [mem_ascS, List.mem_append, List.mem_append, mem_dReads, mem_dWrites, or_assoc]
theorem mem_allVars {es : List Ent} {ins : List Str} {y : Str} : y ∈ allVars es ins ↔ y ∈ ins ∨ ∃ e ∈ es, y ∈ eVars e := by
  unfold allVars
  rw [mem_ascS, List.mem_append, mem_flat]
theorem mem_allConsts {es : List Ent} {y : Int} : y ∈ allConsts es ↔ ∃ e ∈ es, y ∈ dConsts e.2.2 := by
  unfold allConsts
  rw [mem_ascI, mem_flat]
def cnt (ds : List DD) : Nat := ds.countP fun d => !d.2.2
theorem step_inv : ∀ (ds : List DD) (s : Int × List DD) (c : Nat), ((c + cnt s.2 : Nat) : Int) + max s.1 0 ≤ 8 → ((c + cnt (ds.foldl lessStep s).2 : Nat) : Int) + max (ds.foldl lessStep s).1 0 ≤ 8
  | [], s, c, h => h
  | d :: r, s, c, h => by
    refine step_inv r (lessStep s d) c ?_
    obtain ⟨k, acc⟩ := s
    obtain ⟨v, t, b⟩ := d
    have e : cnt (lessStep (k, acc) (v, t, b)).2 = cnt acc + (if (!(b || decide (k - (if !b then 1 else 0) < 0))) = true then 1 else 0) := by
      unfold cnt lessStep
      rw [List.countP_append, List.countP_singleton]
    rw [e]
    show ((c + (cnt acc + _) : Nat) : Int) + max (k - (if !b then 1 else 0)) 0 ≤ 8
    have h : ((c + cnt acc : Nat) : Int) + max k 0 ≤ 8 := h
    cases b with
    | true =>
      simp
      omega
    | false =>
      by_cases hk : k - 1 < 0
      · simp [hk]
        omega
      · simp [hk]
        omega
theorem ent_inv : ∀ (es : List Ent) (s : Int × List Ent), ((atOnce s.2 : Nat) : Int) + max s.1 0 ≤ 8 → ((atOnce (es.foldl lessEnt s).2 : Nat) : Int) + max (es.foldl lessEnt s).1 0 ≤ 8
  | [], s, h => h
  | e :: r, s, h => by
    refine ent_inv r (lessEnt s e) ?_
    have h1 := step_inv e.2.2 (s.1, []) (atOnce s.2) (by show ((atOnce s.2 + 0 : Nat) : Int) + max s.1 0 ≤ 8; omega)
    have e1 : atOnce (lessEnt s e).2 = atOnce s.2 + cnt (e.2.2.foldl lessStep (s.1, [])).2 := by
      unfold atOnce lessEnt cnt
      rw [List.map_append, List.sum_append]
      simp
    rw [e1]
    exact h1
theorem lessOnce_once (es : List Ent) : atOnce (lessOnce es) ≤ 8 := by
  have := ent_inv es (8, []) (by decide)
  unfold lessOnce
  omega
theorem EOk.small {wr ws : List Str} {dg : List Int} {md n : Nat} {e : Ent} (h : EOk wr ws dg md n e) (sub : ∀ y ∈ wr, y ∈ ws) (hd : md ≤ 4) (hn : n ≤ 3) (w4 : ws.length ≤ 10) (d4 : dg.length ≤ 10) :
    VFine e ∧ (∀ y ∈ eVars e, y ∈ ws) ∧ ∀ y ∈ dConsts e.2.2, y ∈ dg := by
  obtain ⟨h1, h2, h3, h4, h5, h6, h7⟩ := h
  have v1 : ∀ y ∈ eVars e, y ∈ ws := fun y hy => by
    rcases mem_eVars.mp hy with hy | ⟨d, hd, hy⟩ | ⟨d, hd, rfl⟩
    · exact h2 y hy
    · exact (h7 d hd).2.2.2.1 y hy
    · exact sub _ (h7 d hd).1
  have v2 : ∀ y ∈ dConsts e.2.2, y ∈ dg := fun y hy => by
    obtain ⟨d, hd, hy⟩ := mem_dConsts.mp hy
    exact (h7 d hd).2.2.2.2 y hy
  refine ⟨⟨⟨by omega, fun d hd => ?_⟩, by omega, ?_, ?_⟩, v1, v2⟩
  · obtain ⟨a1, a2, a3, a4⟩ := h7 d hd
    have := ascS_few a4.1
    have := ascI_few a4.2
    exact ⟨by omega, by omega, by omega⟩
  · have := le_cover (l := eVars e) (m := ws) (Ord.up_nodup Ord.up_asc) v1
    omega
  · have := le_cover (l := dConsts e.2.2) (m := dg) (Ord.up_nodup Ord.up_asc) v2
    omega
theorem dg_two {dg : List Int} (h : dg ∈ dgMenu) : dg.length ≤ 2 := by
  simp only [dgMenu, List.mem_cons, List.not_mem_nil, or_false] at h
  rcases h with rfl | rfl | rfl | rfl | rfl <;> decide
theorem tt_nodup {tt : List Str} (h : tt ∈ ttMenu) : tt.Nodup := by
  simp only [ttMenu, List.mem_cons, List.not_mem_nil, or_false] at h
  rcases h with rfl | rfl <;> decide +kernel
theorem PlainFine.prog {mp md n : Nat} {es : List Ent} {ins : List Str} (h : PlainFine mp md n es ins) (hp : mp ≤ 5) (hd : md ≤ 4) (hn : n ≤ 3) :
    1 ≤ es.length ∧ es.length ≤ mp ∧ (∀ e ∈ es, EMade e) ∧ (∀ e ∈ es, VFine e) ∧ fw (some es) (some ins) = none ∧ (∀ y ∈ ins, Word y) ∧ ins.Nodup ∧ 1 ≤ ins.length ∧ ins.length ≤ 2 := by
  have h0 := h
  obtain ⟨_, _, _, _, e0, _, _, _, _, _, _, _, _, _, eL, _⟩ := h0
  obtain ⟨ws, j, dg, tt, h1, h2, h3, h4, h5, h6, h7, h8, h9, a1, a2, a3, a4⟩ := h.ents
  have sub : ∀ y ∈ ws.drop j, y ∈ ws := fun y hy => List.mem_of_mem_drop hy
  have d2 := dg_two h8
  have sm : ∀ e ∈ es, VFine e ∧ (∀ y ∈ eVars e, y ∈ ws) ∧ ∀ y ∈ dConsts e.2.2, y ∈ dg := fun e he => (a4 e he).small sub hd hn (by omega) (by omega)
  have dis : ∀ y ∈ ws.take j, y ∉ ws.drop j := fun y hy hz => by
    have := h1
    rw [← List.take_append_drop j ws, List.nodup_append] at this
    exact this.2.2 y hy y hz rfl
  refine ⟨a1, a2, fun e he => ?_, fun e he => (sm e he).1, ?_, ?_, ?_, ?_, ?_⟩
  · obtain ⟨b1, b2, b3, b4, b5, b6, b7⟩ := a4 e he
    have hm : e.1 ∈ tt := by
      refine List.mem_of_mem_take (i := es.length) ?_
      rw [← a3]
      exact List.mem_map.mpr ⟨e, he, rfl⟩
    have nm := tt_names h9 _ hm
    refine ⟨nm.1, by omega, b1, fun y hy => (h2 y (b2 y hy)).word, b3, by omega, b5, by omega, fun d hd => ?_⟩
    obtain ⟨c1, c2, c3, _⟩ := b7 d hd
    exact ⟨(h2 _ (sub _ c1)).word, c2, by omega⟩
  · rw [fw_some, if_pos, if_pos, if_neg, if_neg, if_neg]
    · have := lessOnce_once e0
      rw [← eL] at this
      omega
    · have := le_cover (l := allConsts es) (m := dg) (Ord.up_nodup Ord.up_asc) fun y hy => by
        obtain ⟨e, he, hy⟩ := mem_allConsts.mp hy
        exact (sm e he).2.2 y hy
      omega
    · rw [Option.getD_some]
      have := le_cover (l := allVars es ins) (m := ws) (Ord.up_nodup Ord.up_asc) fun y hy => by
        rcases mem_allVars.mp hy with hy | ⟨e, he, hy⟩
        · rw [h7] at hy
          exact List.mem_of_mem_take hy
        · exact (sm e he).2.1 y hy
      omega
    · show (!(es.any (writesOf ins))) = true
      rw [Bool.not_eq_true']
      rw [List.any_eq_false]
      intro e he hw
      unfold writesOf at hw
      obtain ⟨y, hy, hz⟩ := List.any_eq_true.mp hw
      obtain ⟨d, hd, rfl⟩ := mem_dWrites.mp (of_decide_eq_true hz)
      rw [h7] at hy
      exact dis _ hy ((a4 e he).2.2.2.2.2.2 d hd).1
    · rw [a3]
      exact (tt_nodup h9).sublist (List.take_sublist _ _)
  · rw [h7]
    exact fun y hy => (h2 y (List.mem_of_mem_take hy)).word
  · rw [h7]
    exact h1.sublist (List.take_sublist _ _)
  · rw [h7, List.length_take]
    omega
  · rw [h7, List.length_take]
    omega
end Z
set_option maxRecDepth 100000
set_option maxHeartbeats 4000000
set_option pp.maxSteps 500
namespace Z
open PySem PySem.Spec PyProof.Rows L2
def dWrit (ds : List DD) (b : Bool) : List Str := ascS ((ds.filter fun d => decide (d.2.2 = b)).map (·.1))
theorem mem_dWrit {ds : List DD} {b : Bool} {y : Str} : y ∈ dWrit ds b ↔ ∃ d ∈ ds, d.2.2 = b ∧ d.1 = y := by
  unfold dWrit
  rw [mem_ascS, List.mem_map]
  constructor
  · rintro ⟨d, hd, rfl⟩
    obtain ⟨h1, h2⟩ := List.mem_filter.mp hd
    exact ⟨d, h1, of_decide_eq_true h2, rfl⟩
  · rintro ⟨d, h1, h2, rfl⟩
    exact ⟨d, List.mem_filter.mpr ⟨h1, decide_eq_true h2⟩, rfl⟩
theorem dWrit_len {ds : List DD} {b : Bool} : (dWrit ds b).length ≤ ds.length := by
  have h1 := ascS_len (l := (ds.filter fun d => decide (d.2.2 = b)).map (·.1))
  rw [List.length_map] at h1
  exact Nat.le_trans h1 (List.length_filter_le _ _)
theorem filt_snoc {α : Type} {f : α → Bool} {xs : List α} {i : Nat} {x : α} (h : xs[i]? = some x) : (xs.take (i + 1)).filter f = if f x then (xs.take i).filter f ++ [x] else (xs.take i).filter f := by
  rw [take_snoc h, List.filter_append]
  cases hf : f x <;> simp [hf]
theorem k_is' : kitB "int" "str" = some false := by decide +kernel
inductive NmQ (K : PySem.W.Frag) (H : Hp) : V → Option Str → Prop
  | str (s : Str) : NmQ K H (.str s) (some s)
  | oth {x : V} {ty : String} (h : TyX K H x (.type ty)) (k : kitB ty "str" = some false) : NmQ K H x none
theorem NmQ.same {K : PySem.W.Frag} {H H' : Hp} {v : V} {r : Option Str} (s : Same H H') (h : NmQ K H v r) : NmQ K H' v r := by
  cases h with
  | str s => exact .str s
  | oth h k => exact .oth (tyX_same s h) k
def placeO (ns : List Str) : Option Str → Option Nat
  | none => none
  | some s => if s ∈ ns then some (ns.idxOf s) else none
theorem placeO_at {ns : List Str} {i : Nat} {s : Str} (nd : ns.Nodup) (h : ns[i]? = some s) : placeO ns (some s) = some i := by
  have hm := List.mem_of_getElem? h
  show (if s ∈ ns then some (ns.idxOf s) else none) = _
  rw [if_pos hm]
  obtain ⟨hi, e⟩ := List.getElem?_eq_some_iff.mp h
  have e2 : ns[ns.idxOf s]'(List.idxOf_lt_length_of_mem hm) = s := List.getElem_idxOf _
  exact congrArg some ((List.getElem_inj nd).mp (e2.trans e.symm))
theorem ninStrs {K : PySem.W.Frag} {H : Hp} {Q : VK} {x : Str} {p : Addr} {l : List Str} (h : SqL K H p (l.map V.str)) (q : Q (.bl (!decide (x ∈ l))) H) : rInA K true (.str x) (.ref p) H Q :=
  ⟨.inl ⟨p, _, rfl, .inl h, rfl, flat_strs l, by rw [inV_strs]; exact q⟩⟩
theorem idxStrs {K : PySem.W.Frag} {H : Hp} {Q : VK} {x : Str} {p : Addr} {l : List Str} (h : SqL K H p (l.map V.str)) (m : x ∈ l) (q : Q (.int (l.idxOf x : Nat)) H) : rIndex K (.ref p) [.str x] H Q := by
  have hi := List.idxOf_lt_length_of_mem m
  have e2 : l[l.idxOf x]? = some x := by rw [List.getElem?_eq_getElem hi, List.getElem_idxOf]
  refine ⟨p, _, .str x, l.idxOf x, .str x, rfl, rfl, h, rfl, flat_strs l, by rw [List.getElem?_map, e2]; rfl, by show (x == x) = true; exact beq_self_eq_true x, fun k z' hk hz => ?_, q⟩
  rw [List.getElem?_map] at hz
  cases hl : l[k]? with
  | none => rw [hl] at hz; cases hz
  | some y =>
    rw [hl] at hz
    cases hz
    show (y == x) = false
    have := List.not_of_lt_findIdx (p := fun z => z == x) (xs := l) (i := k) hk
    obtain ⟨hk2, ey⟩ := List.getElem?_eq_some_iff.mp hl
    rw [ey] at this
    exact this
section
variable {P : Program} {w : World} {K : PySem.W.Frag} {mg : Str → Option Value} {base : Heap} {a : Ad}
def spPWritten (K : PySem.W.Frag) (CP CD CT : Addr) : Sp := fun vs H Q _ => ∃ p s wl dl b, vs = [.ref p, .bl b] ∧ ProcAt K CP CD CT H p s wl dl ∧ dl.length < 64 ∧ ∀ q H', Same H H' → H q = none → H' q = some (.lst ((dWrit dl b).map V.str)) → Q (.ref q) H'
theorem ok_pwritten (T : Tx P K mg a) : FnOk P w K mg base CX0 3 a.f_Process_written a.d_Process_written ["self", "late"] (spPWritten K a.C_Process a.C_Deed a.C_Term) := by
  have F1 : FnOk P w K mg base CX0 1 a.f_Deed_variable a.d_Deed_variable ["self"] (spDVar K a.C_Deed a.C_Term) := ok_dvar T
  have F2 : FnOk P w K mg base CX0 1 a.f_ascending_words a.d_ascending_words ["words"] (spAscW K) := ok_ascW T
  have F3 : FnOk P w K mg base CX0 1 a.f_Deed_late a.d_Deed_late ["self"] (spDLate K a.C_Deed a.C_Term) := ok_dlate T
  refine T.Process_written.ok sc_Process_written (fun vs H Q E h => ?_) (fun cdv A outer s H vs Q E hr h => ?_)
  · obtain ⟨p, s, wl, dl, b, rfl, _⟩ := h
    rfl
  · obtain ⟨p, s, wl, dl, b, rfl, ⟨dx, pw, pd, qs, h1, h2, h3, h4⟩, few, k⟩ := h
    have nd := sc_Process_written.nd
    have hr2 : Room 2 _ := hr
    refine ⟨_, (pss_one (ps_ret (pe_cf T.ascending_words F2 (hr.mono (by decide)) (pa_cons (pe_lc (own := [("deed", 2)]) (by rfl) nd (pi_list (pe_fld (pv 0) rfl)) (blkOk_by (own := [("deed", 2)]) (N := ["self", "late", "deed"]) (sc := defScope s_Process_written) (by decide +kernel)) (fun _ _ _ _ _ => (pg_name (i := 2) nd rfl (Or.inl rfl))) (fun _ _ _ _ _ => pts_one (pt_cmpR (op_eqX (K := K) hr) (pe_prop (pv 2) T.c_Deed T.p_Deed_late F3 hr2 T.b_Deed_late .nil pass0 rfl) (pv 1) (nomark _))) (fun _ _ _ _ _ => (pe_prop (pv 2) T.c_Deed T.p_Deed_variable F1 hr2 T.b_Deed_variable .nil pass0 rfl))) pa_nil)))), ?_⟩
    refine ⟨_, rfl, p, _, dx, _, _, rfl, h1, T.c_Process, T.no_Process_done, rfl, pd, rfl, ⟨_, .inl (.inl h3)⟩, fun D nD => ?_⟩
    have few2 : ∀ i, ((dl.take i).filter fun d => decide (d.2.2 = b)).length ≤ dl.length := fun i => Nat.le_trans (List.length_filter_le _ _) (by rw [List.length_take]; exact Nat.min_le_right _ _)
    refine lc_it (walk_list (xs := qs.map V.ref)) (fun i H' => H' D = some (.lst ((((dl.take i).filter fun d => decide (d.2.2 = b)).map (·.1)).map V.str)) ∧ Same H H') ⟨upd_same, sNew nD⟩ (fun _ _ _ ⟨_, sm⟩ => .inl (.inl (sm _ _ h3))) ?_ ?_
    · rintro i x H2 H2' hi ⟨hA, sm⟩ ⟨rfl, hx⟩
      obtain ⟨q, d, rfl, hd, da⟩ := h4.at hx
      have da := da.same sm
      have da' := da
      obtain ⟨dq, qq, z1, _⟩ := da'
      have e := filt_snoc (f := fun d : DD => decide (d.2.2 = b)) hd
      have f2 := few2 i
      refine ⟨rfl, _, rfl, q, dq, _, rfl, z1, q, _, _, _, rfl, da, _, rfl, eqB ⟨_, rfl, ?_⟩⟩
      cases hb : decide (d.2.2 = b) with
      | false =>
        rw [hb] at e
        exact ⟨by rw [e]; exact hA, sm⟩
      | true =>
        rw [hb] at e
        refine ⟨_, rfl, q, dq, _, rfl, z1, q, _, _, _, rfl, da, _, hA, ?_, ?_, sUpd nD sm⟩
        · rw [List.length_map, List.length_map]
          have := sl1k
          omega
        · rw [upd_same, e, if_pos rfl, List.map_append, List.map_append]
          rfl
    · rintro H2 ⟨hA, sm⟩
      have le : (qs.map V.ref).length = dl.length := by rw [List.length_map]; exact h4.1
      have hA : H2 D = some (.lst ((((dl.take (qs.map V.ref).length).filter fun d => decide (d.2.2 = b)).map (·.1)).map V.str)) := hA
      rw [le, List.take_length] at hA
      have f2 := few2 dl.length
      rw [List.take_length] at f2
      refine ⟨D, (dl.filter fun d => decide (d.2.2 = b)).map (·.1), rfl, .inl (.inl hA), by rw [List.length_map]; omega, fun q H3 s3 nq hq => ?_⟩
      exact k q H3 (sm.trans s3) (sm.non nq) hq
def spGNames (K : PySem.W.Frag) (CG CP CD CT : Addr) : Sp := fun vs H Q _ => ∃ p es ins, vs = [.ref p] ∧ ProgAt K CG CP CD CT H p es ins ∧ ∀ q H', Same H H' → H q = none → H' q = some (.lst ((es.map (·.1)).map V.str)) → Q (.ref q) H'
theorem ok_gnames (T : Tx P K mg a) : FnOk P w K mg base CX0 1 a.f_Program_names a.d_Program_names ["self"] (spGNames K a.C_Program a.C_Process a.C_Deed a.C_Term) := by
  refine T.Program_names.ok sc_Program_names (fun vs H Q E h => ?_) (fun cdv A outer s H vs Q E hr h => ?_)
  · obtain ⟨p, es, ins, rfl, _⟩ := h
    rfl
  · obtain ⟨p, es, ins, rfl, ⟨dx, pl, pt, pg, pw, pn, xs, h1, h2, h3, h4, _⟩, k⟩ := h
    refine ⟨_, (pss_one (ps_ret (cb_list T.bi (pa_cons (pe_fld (pv 0) rfl) pa_nil)))), ?_⟩
    exact ⟨_, rfl, p, _, dx, _, _, rfl, h1, T.c_Program, T.no_Program_titles, rfl, listL (.inl (.inl (.inl h4))) fun q H1 nq s1 hq => k q H1 s1 nq hq⟩
def spGPlace (K : PySem.W.Frag) (CG CP CD CT X : Addr) : Sp := fun vs H Q E => ∃ p es ins x o, vs = [.ref p, x] ∧ ProgAt K CG CP CD CT H p es ins ∧ NmQ K H x o ∧ (placeO (es.map (·.1)) o = none → FliesF E X "who" H x) ∧ (∀ i H', placeO (es.map (·.1)) o = some i → Same H H' → Q (.int (i : Nat)) H')
theorem ok_gplace (T : Tx P K mg a) : FnOk P w K mg base (L2.CX P w) 2 a.f_Program_place_of a.d_Program_place_of ["self", "name"] (spGPlace K a.C_Program a.C_Process a.C_Deed a.C_Term a.C_NoName) := by
  have F1 : FnOk P w K mg base CX0 1 a.f_Program_names a.d_Program_names ["self"] (spGNames K a.C_Program a.C_Process a.C_Deed a.C_Term) := ok_gnames T
  refine T.Program_place_of.okX sc_Program_place_of (fun vs H Q E h => ?_) (fun cdv A outer s H vs Q E hr h => ?_)
  · obtain ⟨p, es, ins, x, o, rfl, _⟩ := h
    rfl
  · obtain ⟨p, es, ins, x, o, rfl, pa, hx, qE, qV⟩ := h
    have nd := sc_Program_place_of.nd
    have pa0 := pa
    obtain ⟨dx, pl, pt, pg, pw, pn, xs, h1, _⟩ := pa0
    refine ⟨_, (pss_cons (ps_set (i := 2) nd rfl (Or.inl rfl) (pe_meth0 (pv 0) T.c_Program T.m_Program_names F1 hr T.b_Program_names .nil pass0))
      (pss_cons (ps_if (PW.pt (pw_or (pt_not (pt_val (cb_isi T.bi (pa_cons (pv 1) (pa_cons (gl_ty rfl T.bi.str PyProof.Rows.boot_str) pa_nil))))) (pw_or1 (pt_cmpR op_notInA (pv 1) (pv 2) rfl))))
        (pss_one (ps_raiseK (takes_of rfl rfl rfl rfl) T.e_NoName hr (pa_cons (pv 1) pa_nil))) pss_nil)
      (pss_one (ps_ret (pe_bm PySem.F.plainAttrs_list PySem.F.slot_list_index PySem.F.type_list_index mt_index (pv 2) (pa_cons (pv 1) pa_nil)))))), ?_⟩
    refine ⟨_, rfl, p, dx, _, rfl, h1, rfl, p, es, ins, rfl, pa, fun l H1 s1 nl hl => ?_⟩
    have hx := hx.same s1
    cases hx with
    | str s =>
      refine ⟨_, rfl, isiTy (.base (.str s)) k_ss ⟨_, rfl, ?_⟩⟩
      refine ⟨_, rfl, _, rfl, ninStrs (.inl (.inl hl)) ⟨_, rfl, ?_⟩⟩
      by_cases hm : s ∈ es.map (·.1)
      · rw [decide_eq_true hm]
        refine ⟨_, rfl, .inl ⟨rfl, _, .inl (.inl hl)⟩, _, rfl, idxStrs (.inl (.inl hl)) hm (qV _ H1 ?_ s1)⟩
        show (if s ∈ es.map (·.1) then some ((es.map (·.1)).idxOf s) else none) = _
        rw [if_pos hm]
      · rw [decide_eq_false hm]
        refine ⟨_, rfl, _, rfl, fun d hd => qE ?_ d H1 s1 hd⟩
        show (if s ∈ es.map (·.1) then some ((es.map (·.1)).idxOf s) else none) = _
        rw [if_neg hm]
    | oth h k =>
      refine ⟨_, rfl, isiTy h k ⟨_, rfl, ?_⟩⟩
      exact ⟨_, rfl, _, rfl, fun d hd => qE rfl d H1 s1 hd⟩
end
end Z
set_option maxRecDepth 100000
set_option maxHeartbeats 4000000
set_option pp.maxSteps 500
namespace Z
open PySem PySem.Spec PyProof.Rows L2
theorem pe_fldK {X : Cx} {K : PySem.W.Frag} {e : Expr} {f : Str} {pos : Pos} {ta : TE} (he : PE X e ta) (hk : X.K = K := by rfl) (hb : attributeBase e f X.env (eval e X.env) = eval e X.env := by rfl) : PE X (.Attribute e f pos) (tFld K ta f) := by
  subst hk
  exact pe_fld he hb
def selTo (f : Nat → Bool) : Nat → List Int
  | 0 => []
  | n + 1 => if f n then selTo f n ++ [(n : Int)] else selTo f n
theorem mem_selTo {f : Nat → Bool} {z : Int} : ∀ {n : Nat}, z ∈ selTo f n ↔ ∃ i, i < n ∧ f i = true ∧ z = (i : Int)
  | 0 => by simp [selTo]
  | n + 1 => by
    have ih := mem_selTo (f := f) (z := z) (n := n)
    unfold selTo
    by_cases h : f n = true
    · rw [if_pos h, List.mem_append, ih, List.mem_singleton]
      constructor
      · rintro (⟨i, h1, h2, h3⟩ | h3)
        · exact ⟨i, by omega, h2, h3⟩
        · exact ⟨n, by omega, h, h3⟩
      · rintro ⟨i, h1, h2, h3⟩
        by_cases e : i = n
        · subst e
          exact .inr h3
        · exact .inl ⟨i, by omega, h2, h3⟩
    · rw [if_neg h, ih]
      constructor
      · rintro ⟨i, h1, h2, h3⟩
        exact ⟨i, by omega, h2, h3⟩
      · rintro ⟨i, h1, h2, h3⟩
        refine ⟨i, ?_, h2, h3⟩
        by_cases e : i = n
        · subst e
          exact absurd h2 h
        · omega
theorem selTo_len (f : Nat → Bool) : ∀ n, (selTo f n).length ≤ n
  | 0 => Nat.le_refl _
  | n + 1 => by
    have := selTo_len f n
    unfold selTo
    split
    · rw [List.length_append]
      simp
      omega
    · omega
theorem selTo_congr {f g : Nat → Bool} : ∀ {n : Nat}, (∀ i, i < n → f i = g i) → selTo f n = selTo g n
  | 0, _ => rfl
  | n + 1, h => by
    unfold selTo
    rw [h n (by omega), selTo_congr fun i hi => h i (by omega)]
theorem inV_ints {x : Int} : ∀ l : List Int, inV (.int x) (l.map V.int) = decide (x ∈ l)
  | [] => rfl
  | z :: r => by
    have ih := inV_ints (x := x) r
    unfold inV at ih ⊢
    rw [List.map_cons, List.any_cons, ih]
    show ((z == x) || decide (x ∈ r)) = _
    by_cases h : x = z
    · subst h
      simp
    · have : ¬ z = x := fun e => h e.symm
      simp [h, this]
theorem flat_ints : ∀ l : List Int, (l.map V.int).all flatV = true
  | [] => rfl
  | z :: r => by
    rw [List.map_cons, List.all_cons, flat_ints r]
    rfl
theorem inInts {K : PySem.W.Frag} {H : Hp} {Q : VK} {x : Int} {p : Addr} {l : List Int} (h : SqL K H p (l.map V.int)) (q : Q (.bl (decide (x ∈ l))) H) : rInA K false (.int x) (.ref p) H Q :=
  ⟨.inl ⟨p, _, rfl, .inl h, rfl, flat_ints l, by rw [inV_ints]; exact q⟩⟩
def waitB (es : List Ent) (v : Str) (j : Nat) : Bool := (es[j]?).any fun f => decide (v ∈ f.2.1)
def waitIx (es : List Ent) (v : Str) : List Int := selTo (waitB es v) es.length
def hits (es : List Ent) (e : Ent) (b : Bool) : List Int := ((dWrit e.2.2 b).map (waitIx es)).flatten
def wakeB (e f : Ent) (b : Bool) : Bool := e.2.2.any fun d => decide (d.2.2 = b) && decide (d.1 ∈ f.2.1)
theorem mem_waitIx {es : List Ent} {v : Str} {j : Nat} : (j : Int) ∈ waitIx es v ↔ ∃ f, es[j]? = some f ∧ v ∈ f.2.1 := by
  unfold waitIx
  rw [mem_selTo]
  constructor
  · rintro ⟨i, h1, h2, h3⟩
    have : j = i := by omega
    subst this
    unfold waitB at h2
    rw [List.getElem?_eq_getElem h1] at h2
    exact ⟨_, List.getElem?_eq_getElem h1, of_decide_eq_true h2⟩
  · rintro ⟨f, h1, h2⟩
    obtain ⟨hj, _⟩ := List.getElem?_eq_some_iff.mp h1
    refine ⟨j, hj, ?_, rfl⟩
    unfold waitB
    rw [h1]
    exact decide_eq_true h2
theorem mem_hits {es : List Ent} {e f : Ent} {b : Bool} {j : Nat} (hj : es[j]? = some f) : decide ((j : Int) ∈ hits es e b) = wakeB e f b := by
  rw [Bool.eq_iff_iff, decide_eq_true_iff]
  unfold hits wakeB
  rw [mem_flat, List.any_eq_true]
  constructor
  · rintro ⟨y, hy, hz⟩
    obtain ⟨d, h1, h2, rfl⟩ := mem_dWrit.mp hy
    obtain ⟨f', e1, e2⟩ := mem_waitIx.mp hz
    cases hj.symm.trans e1
    exact ⟨d, h1, by rw [Bool.and_eq_true]; exact ⟨decide_eq_true h2, decide_eq_true e2⟩⟩
  · rintro ⟨d, h1, h2⟩
    obtain ⟨h2, h3⟩ := Bool.and_eq_true_iff.mp h2
    exact ⟨d.1, mem_dWrit.mpr ⟨d, h1, of_decide_eq_true h2, rfl⟩, mem_waitIx.mpr ⟨f, hj, of_decide_eq_true h3⟩⟩
def GFine (es : List Ent) : Prop := es.length ≤ 5 ∧ ∀ e ∈ es, VFine e
section
variable {P : Program} {w : World} {K : PySem.W.Frag} {mg : Str → Option Value} {base : Heap} {a : Ad}
def spWaiters (K : PySem.W.Frag) (CG CP CD CT : Addr) : Sp := fun vs H Q _ => ∃ p es ins v, vs = [.ref p, .str v] ∧ ProgAt K CG CP CD CT H p es ins ∧ GFine es ∧ ∀ q H', Same H H' → H q = none → H' q = some (.lst ((waitIx es v).map V.int)) → Q (.ref q) H'
theorem ok_waiters (T : Tx P K mg a) : FnOk P w K mg base CX0 1 a.f_waiters a.d_waiters ["program", "variable"] (spWaiters K a.C_Program a.C_Process a.C_Deed a.C_Term) := by
  refine T.waiters.fn.ok sc_waiters (fun vs H Q E h => ?_) (fun cdv A outer s H vs Q E hr h => ?_)
  · obtain ⟨p, es, ins, v, rfl, _⟩ := h
    rfl
  · obtain ⟨p, es, ins, v, rfl, ⟨dx, pl, pt, pg, pw, pn, xs, h1, h2, h3, _⟩, ⟨few, fine⟩, k⟩ := h
    have nd := sc_waiters.nd
    have le := h3.length
    have sl := sl1k
    refine ⟨_, (pss_one (ps_ret (pe_lc (own := [("place", 2), ("process", 3)]) (by rfl) nd (pi_enum rfl T.bi.enumerate (pa_cons (pe_fld (pv 0) rfl) pa_nil)) (blkOk_by (own := [("place", 2), ("process", 3)]) (N := ["program", "variable", "place", "process"]) (sc := defScope s_waiters) (by decide +kernel)) (fun _ _ _ _ _ => (pg_tupK (K := K) (n := 2) rfl (pgs_cons (pg_name (i := 2) nd rfl (Or.inl rfl) (Or.inr rfl)) (pgs_cons (pg_name (i := 3) nd rfl (Or.inl rfl) (Or.inr rfl)) pgs_nil)))) (fun _ _ _ _ _ => pts_one (pt_cmpR (op_inA (K := K)) (pv 1) (pe_fldK (K := K) (pv 3)) rfl)) (fun _ _ _ _ _ => (pv 2))))), ?_⟩
    refine ⟨_, rfl, p, _, dx, _, _, rfl, h1, T.c_Program, T.no_Program_line, rfl, pl, _, rfl, .inl (.inl h2), fun D nD => ?_⟩
    refine lc_it (walk_enum (xs := xs)) (fun i H' => H' D = some (.lst ((selTo (waitB es v) i).map V.int)) ∧ Same H H') ⟨upd_same, sNew nD⟩ (fun _ _ _ ⟨_, sm⟩ => .inl (.inl (sm _ _ h2))) ?_ ?_
    · rintro i x H2 H2' hi ⟨hA, sm⟩ ⟨T0, y0, y1, rfl, nT, rfl, hy0, hy1⟩
      cases hy0
      obtain ⟨e, hE, q, rfl, pa⟩ := h3.get hy1
      have sT := sNew (o := .tup [V.int (i : Nat), .ref q]) nT
      have pa := (pa.same sm).same sT
      obtain ⟨dq, pw2, pd2, qs2, z1, z2, _⟩ := pa
      have hi' : i < xs.length := hi
      refine ⟨T0, _, rfl, .inl (.inl upd_same), rfl, _, _, rfl, _, _, rfl, rfl, rfl, ?_⟩
      refine ⟨_, rfl, _, rfl, q, _, dq, _, _, rfl, z1, T.c_Process, T.no_Process_waited, rfl, inStrs (.inl (.inl z2)) ⟨_, rfl, ?_⟩⟩
      have hA2 := sT _ _ hA
      have e0 : selTo (waitB es v) (i + 1) = if decide (v ∈ e.2.1) then selTo (waitB es v) i ++ [(i : Int)] else selTo (waitB es v) i := by
        rw [selTo]
        unfold waitB
        rw [hE]
        rfl
      have l0 := selTo_len (waitB es v) i
      cases hv : decide (v ∈ e.2.1) with
      | false =>
        rw [hv] at e0
        exact ⟨by rw [e0]; exact hA2, sm.trans sT⟩
      | true =>
        rw [hv] at e0
        refine ⟨_, rfl, _, hA2, by rw [List.length_map]; omega, ?_, sUpd nD (sm.trans sT)⟩
        rw [upd_same, e0]
        simp
    · rintro H2 ⟨hA, sm⟩
      have hA : H2 D = some (.lst ((selTo (waitB es v) xs.length).map V.int)) := hA
      rw [le] at hA
      exact k D H2 sm nD hA
def spWlate (K : PySem.W.Frag) (CG CP CD CT : Addr) : Sp := fun vs H Q _ => ∃ (p : Addr) (es : List Ent) (ins : List Str) (i : Nat) (e : Ent), vs = [.ref p, .int i] ∧ ProgAt K CG CP CD CT H p es ins ∧ GFine es ∧ es[i]? = some e ∧ ∀ q H', Same H H' → H q = none → H' q = some (.lst ((selTo (fun j => decide ((j : Int) ∈ hits es e true)) es.length).map V.int)) → Q (.ref q) H'
theorem ok_wlate (T : Tx P K mg a) : FnOk P w K mg base CX0 4 a.f_woken_late a.d_woken_late ["program", "place"] (spWlate K a.C_Program a.C_Process a.C_Deed a.C_Term) := by
  have F1 : FnOk P w K mg base CX0 3 a.f_Process_written a.d_Process_written ["self", "late"] (spPWritten K a.C_Process a.C_Deed a.C_Term) := ok_pwritten T
  have F2 : FnOk P w K mg base CX0 1 a.f_waiters a.d_waiters ["program", "variable"] (spWaiters K a.C_Program a.C_Process a.C_Deed a.C_Term) := ok_waiters T
  have F3 : FnOk P w K mg base CX0 1 a.f_Program___len__ a.d_Program___len__ ["self"] (spGLen K a.C_Program a.C_Process a.C_Deed a.C_Term) := ok_glen T
  have isF : PySem.W.isFn K (.ref a.f_Program___len__) = true := T.m_Program___len__.fn
  refine T.woken_late.fn.ok sc_woken_late (fun vs H Q E h => ?_) (fun cdv A outer s H vs Q E hr h => ?_)
  · obtain ⟨p, es, ins, i, e, rfl, _⟩ := h
    rfl
  · obtain ⟨p, es, ins, i, e, rfl, pa, gf, hi, k⟩ := h
    have nd := sc_woken_late.nd
    have hr1 : Room 1 _ := hr.mono (by decide)
    have hr2 : Room 2 _ := hr.mono (by decide)
    have hr3 : Room 3 _ := hr.mono (by decide)
    have pa0 := pa
    obtain ⟨dx, pl, pt, pg, pw, pn, xs, h1, h2, h3, _⟩ := pa0
    have le := h3.length
    have sl := sl1k
    have few := gf.1
    have fine := gf.2
    have fe := fine e (List.mem_of_getElem? hi)
    refine ⟨_, (pss_cons (ps_set (i := 2) nd rfl (Or.inr rfl) (pe_lc2 (own := [("variable", 3), ("other", 4)]) (vs1 := [4]) (by rfl) nd (pi_list (pe_meth (pe_ix ix_A (pe_fld (pv 0) rfl) (pv 1) (fun _ _ => rfl)) T.c_Process T.m_Process_written F1 hr3 T.b_Process_written .nil pass0 (pa_cons pe_bl pa_nil))) (blkOk_by (own := [("variable", 3), ("other", 4)]) (N := ["program", "place", "found", "variable", "other"]) (sc := defScope s_woken_late) (by decide +kernel)) (by decide) (fun _ _ _ _ _ => (pg_name (i := 3) nd rfl (Or.inl rfl))) (fun _ _ _ _ _ => pts_nil) (fun _ _ _ _ _ => (pi_listA (K := K) (pe_cf T.waiters F2 hr1 (pa_cons (pv 0) (pa_cons (pv 3) pa_nil))))) (fun _ _ _ _ _ => (pg_name (i := 4) nd rfl (Or.inl rfl))) (fun _ _ _ _ _ => pts_nil) (fun _ _ _ _ _ => (pv 4))))
      (pss_one (ps_ret (pe_lc (own := [("other", 4)]) (by rfl) nd (pi_range1 rfl T.bi.range (pa_cons (pe_callB (call_lenO F3 T.m_Program___len__.at_ isF T.b_Program___len__ pass0 hr2) rfl T.bi.len PySem.boot_len (pa_cons (pv 0) pa_nil)) pa_nil)) (blkOk_by (own := [("other", 4)]) (N := ["program", "place", "found", "variable", "other"]) (sc := defScope s_woken_late) (by decide +kernel)) (fun _ _ _ _ _ => (pg_name (i := 4) nd rfl (Or.inl rfl))) (fun _ _ _ _ _ => pts_one (pt_cmpR (op_inA (K := K)) (pv 4) (pv 2) rfl)) (fun _ _ _ _ _ => (pv 4)))))), ?_⟩
    obtain ⟨xi, hxi, q0, rfl, pe⟩ := h3.get' hi
    have pe0 := pe
    obtain ⟨dq, pw0, pd0, qs0, z0, _⟩ := pe0
    refine ⟨_, rfl, p, _, dx, _, _, rfl, h1, T.c_Program, T.no_Program_line, rfl, _, rfl, ixL (i := i) (.inl (.inl h2)) hxi ⟨q0, dq, _, rfl, z0, rfl, ?_⟩⟩
    refine ⟨q0, e.1, e.2.1, e.2.2, true, rfl, pe, by have := fe.1.1; omega, fun lw H1 s1 nlw hlw => ?_⟩
    refine ⟨lw, rfl, ⟨_, .inl (.inl hlw)⟩, fun D nD => ?_⟩
    have bound : ∀ n, (((dWrit e.2.2 true).take n).map (waitIx es)).flatten.length ≤ 5 * 4 := fun n => by
      have f0 := flat_len (f := waitIx es) (xs := (dWrit e.2.2 true).take n) (m := 5) fun y _ => Nat.le_trans (selTo_len _ _) few
      have f1 := dWrit_len (ds := e.2.2) (b := true)
      have f2 := fe.1.1
      have f3 : ((dWrit e.2.2 true).take n).length ≤ (dWrit e.2.2 true).length := by rw [List.length_take]; exact Nat.min_le_right _ _
      omega
    refine it_by (walk_list (xs := (dWrit e.2.2 true).map V.str)) (fun m H' => H' D = some (.lst ((((dWrit e.2.2 true).take m).map (waitIx es)).flatten.map V.int)) ∧ Same H1 H') ⟨upd_same, sNew nD⟩ (fun _ _ _ ⟨_, sm⟩ => .inl (.inl (sm _ _ hlw))) ?_ ?_
    · rintro m x H2 H2' hm ⟨hA, sm⟩ ⟨rfl, hx⟩
      obtain ⟨y, hy, rfl⟩ := map_at hx
      refine ⟨rfl, _, rfl, _, rfl, p, es, ins, y, rfl, (pa.same s1).same sm, gf, fun lv H3 s3 nlv hlv => ?_⟩
      refine ⟨lv, rfl, ⟨_, .inl (.inl hlv)⟩, ?_⟩
      have nlD : lv ≠ D := (ne_of_none hA nlv).symm
      have bd := bound m
      refine it_by (walk_list (xs := (waitIx es y).map V.int)) (fun j H' => H' D = some (.lst (((((dWrit e.2.2 true).take m).map (waitIx es)).flatten ++ (waitIx es y).take j).map V.int)) ∧ Same H1 H' ∧ But D H3 H') ⟨by rw [List.take_zero, List.append_nil]; exact s3 _ _ hA, sm.trans s3, But.refl _ _⟩ (fun _ _ _ ⟨_, _, b⟩ => .inl (.inl (b _ _ nlD hlv))) ?_ ?_
      · rintro j x Ha Ha' hj ⟨hB, sB, bB⟩ ⟨rfl, hx⟩
        obtain ⟨z, hz, rfl⟩ := map_at hx
        refine ⟨rfl, _, rfl, _, hB, ?_, ?_, sUpd nD sB, bB.trans But.upd⟩
        · have := (List.getElem?_eq_some_iff.mp hz).1
          have w5 : (waitIx es y).length ≤ es.length := selTo_len _ _
          rw [List.length_map, List.length_append, List.length_take]
          omega
        · rw [upd_same, take_snoc hz, ← List.append_assoc, List.map_append (l₂ := [z])]
          rfl
      · rintro Ha ⟨hB, sB, bB⟩
        refine ⟨?_, sB⟩
        have hB : Ha D = some (.lst (((((dWrit e.2.2 true).take m).map (waitIx es)).flatten ++ (waitIx es y).take ((waitIx es y).map V.int).length).map V.int)) := hB
        rw [List.length_map, List.take_length] at hB
        rw [hB, flat_snoc hy]
    rintro H2 ⟨hA, sm⟩
    have hA : H2 D = some (.lst ((((dWrit e.2.2 true).take ((dWrit e.2.2 true).map V.str).length).map (waitIx es)).flatten.map V.int)) := hA
    rw [List.length_map, List.take_length] at hA
    have s12 := s1.trans sm
    refine ⟨_, rfl, p, dx, _, rfl, s12 _ _ h1, p, es, ins, rfl, pa.same s12, es.length, rfl, by omega, _, rfl, by omega, by omega, fun D2 nD2 => ?_⟩
    have toN : ((es.length : Nat) : Int).toNat = es.length := by omega
    refine lc_it (walk_range (lo := 0) (n := ((es.length : Nat) : Int).toNat)) (fun m H' => H' D2 = some (.lst ((selTo (fun j => decide ((j : Int) ∈ hits es e true)) m).map V.int)) ∧ Same H2 H') ⟨upd_same, sNew nD2⟩ (fun _ _ _ _ => trivial) ?_ ?_
    · rintro j x Ha Ha' hj ⟨hB, sB⟩ ⟨rfl, hx⟩
      replace hx : x = .int (j : Nat) := by rw [hx]; show V.int (0 + (j : Int)) = _; rw [Int.zero_add]
      subst hx
      have l0 := selTo_len (fun j => decide ((j : Int) ∈ hits es e true)) j
      have hj : j < ((es.length : Nat) : Int).toNat := hj
      refine ⟨rfl, ?_⟩
      refine ⟨_, rfl, _, rfl, inInts (.inl (.inl (sB _ _ hA))) ⟨_, rfl, ?_⟩⟩
      have e0 : selTo (fun j => decide ((j : Int) ∈ hits es e true)) (j + 1) = if decide ((j : Int) ∈ hits es e true) then selTo (fun j => decide ((j : Int) ∈ hits es e true)) j ++ [(j : Int)] else selTo (fun j => decide ((j : Int) ∈ hits es e true)) j := by rw [selTo]
      cases hv : decide ((j : Int) ∈ hits es e true) with
      | false =>
        have hv' : decide ((j : Int) ∈ ((dWrit e.2.2 true).map (waitIx es)).flatten) = false := hv
        rw [hv] at e0
        rw [hv']
        exact ⟨by rw [e0]; exact hB, sB⟩
      | true =>
        have hv' : decide ((j : Int) ∈ ((dWrit e.2.2 true).map (waitIx es)).flatten) = true := hv
        rw [hv] at e0
        rw [hv']
        refine ⟨_, rfl, _, hB, by rw [List.length_map]; omega, ?_, sUpd nD2 sB⟩
        rw [upd_same, e0]
        simp
    rintro H3 ⟨hB, sB⟩
    have hB : H3 D2 = some (.lst ((selTo (fun j => decide ((j : Int) ∈ hits es e true)) ((es.length : Nat) : Int).toNat).map V.int)) := hB
    rw [toN] at hB
    exact k D2 H3 (s12.trans sB) (s12.non nD2) hB
def spWonce (K : PySem.W.Frag) (CG CP CD CT : Addr) : Sp := fun vs H Q _ => ∃ (p : Addr) (es : List Ent) (ins : List Str) (i : Nat) (e : Ent), vs = [.ref p, .int i] ∧ ProgAt K CG CP CD CT H p es ins ∧ GFine es ∧ es[i]? = some e ∧ ∀ q H', Same H H' → H q = none → H' q = some (.lst ((selTo (fun j => decide ((j : Int) ∈ hits es e false) && !decide ((j : Int) = (i : Int))) es.length).map V.int)) → Q (.ref q) H'
theorem ok_wonce (T : Tx P K mg a) : FnOk P w K mg base CX0 4 a.f_woken_at_once a.d_woken_at_once ["program", "place"] (spWonce K a.C_Program a.C_Process a.C_Deed a.C_Term) := by
  have F1 : FnOk P w K mg base CX0 3 a.f_Process_written a.d_Process_written ["self", "late"] (spPWritten K a.C_Process a.C_Deed a.C_Term) := ok_pwritten T
  have F2 : FnOk P w K mg base CX0 1 a.f_waiters a.d_waiters ["program", "variable"] (spWaiters K a.C_Program a.C_Process a.C_Deed a.C_Term) := ok_waiters T
  have F3 : FnOk P w K mg base CX0 1 a.f_Program___len__ a.d_Program___len__ ["self"] (spGLen K a.C_Program a.C_Process a.C_Deed a.C_Term) := ok_glen T
  have isF : PySem.W.isFn K (.ref a.f_Program___len__) = true := T.m_Program___len__.fn
  refine T.woken_at_once.fn.ok sc_woken_at_once (fun vs H Q E h => ?_) (fun cdv A outer s H vs Q E hr h => ?_)
  · obtain ⟨p, es, ins, i, e, rfl, _⟩ := h
    rfl
  · obtain ⟨p, es, ins, i, e, rfl, pa, gf, hi, k⟩ := h
    have nd := sc_woken_at_once.nd
    have hr1 : Room 1 _ := hr.mono (by decide)
    have hr2 : Room 2 _ := hr.mono (by decide)
    have hr3 : Room 3 _ := hr.mono (by decide)
    have pa0 := pa
    obtain ⟨dx, pl, pt, pg, pw, pn, xs, h1, h2, h3, _⟩ := pa0
    have le := h3.length
    have sl := sl1k
    have few := gf.1
    have fine := gf.2
    have fe := fine e (List.mem_of_getElem? hi)
    refine ⟨_, (pss_cons (ps_set (i := 2) nd rfl (Or.inr rfl) (pe_lc2 (own := [("variable", 3), ("other", 4)]) (vs1 := [4]) (by rfl) nd (pi_list (pe_meth (pe_ix ix_A (pe_fld (pv 0) rfl) (pv 1) (fun _ _ => rfl)) T.c_Process T.m_Process_written F1 hr3 T.b_Process_written .nil pass0 (pa_cons pe_bl pa_nil))) (blkOk_by (own := [("variable", 3), ("other", 4)]) (N := ["program", "place", "found", "variable", "other"]) (sc := defScope s_woken_at_once) (by decide +kernel)) (by decide) (fun _ _ _ _ _ => (pg_name (i := 3) nd rfl (Or.inl rfl))) (fun _ _ _ _ _ => pts_nil) (fun _ _ _ _ _ => (pi_listA (K := K) (pe_cf T.waiters F2 hr1 (pa_cons (pv 0) (pa_cons (pv 3) pa_nil))))) (fun _ _ _ _ _ => (pg_name (i := 4) nd rfl (Or.inl rfl))) (fun _ _ _ _ _ => pts_nil) (fun _ _ _ _ _ => (pv 4))))
      (pss_one (ps_ret (pe_lc (own := [("other", 4)]) (by rfl) nd (pi_range1 rfl T.bi.range (pa_cons (pe_callB (call_lenO F3 T.m_Program___len__.at_ isF T.b_Program___len__ pass0 hr2) rfl T.bi.len PySem.boot_len (pa_cons (pv 0) pa_nil)) pa_nil)) (blkOk_by (own := [("other", 4)]) (N := ["program", "place", "found", "variable", "other"]) (sc := defScope s_woken_at_once) (by decide +kernel)) (fun _ _ _ _ _ => (pg_name (i := 4) nd rfl (Or.inl rfl))) (fun _ _ _ _ _ => pts_one (PW.pt (pw_and (pt_cmpR (op_inA (K := K)) (pv 4) (pv 2) rfl) (pw_and1 (pt_cmpR (op_neX (K := K) hr) (pv 4) (pv 1) (nomark _)))))) (fun _ _ _ _ _ => (pv 4)))))), ?_⟩
    obtain ⟨xi, hxi, q0, rfl, pe⟩ := h3.get' hi
    have pe0 := pe
    obtain ⟨dq, pw0, pd0, qs0, z0, _⟩ := pe0
    refine ⟨_, rfl, p, _, dx, _, _, rfl, h1, T.c_Program, T.no_Program_line, rfl, _, rfl, ixL (i := i) (.inl (.inl h2)) hxi ⟨q0, dq, _, rfl, z0, rfl, ?_⟩⟩
    refine ⟨q0, e.1, e.2.1, e.2.2, false, rfl, pe, by have := fe.1.1; omega, fun lw H1 s1 nlw hlw => ?_⟩
    refine ⟨lw, rfl, ⟨_, .inl (.inl hlw)⟩, fun D nD => ?_⟩
    have bound : ∀ n, (((dWrit e.2.2 false).take n).map (waitIx es)).flatten.length ≤ 5 * 4 := fun n => by
      have f0 := flat_len (f := waitIx es) (xs := (dWrit e.2.2 false).take n) (m := 5) fun y _ => Nat.le_trans (selTo_len _ _) few
      have f1 := dWrit_len (ds := e.2.2) (b := false)
      have f2 := fe.1.1
      have f3 : ((dWrit e.2.2 false).take n).length ≤ (dWrit e.2.2 false).length := by rw [List.length_take]; exact Nat.min_le_right _ _
      omega
    refine it_by (walk_list (xs := (dWrit e.2.2 false).map V.str)) (fun m H' => H' D = some (.lst ((((dWrit e.2.2 false).take m).map (waitIx es)).flatten.map V.int)) ∧ Same H1 H') ⟨upd_same, sNew nD⟩ (fun _ _ _ ⟨_, sm⟩ => .inl (.inl (sm _ _ hlw))) ?_ ?_
    · rintro m x H2 H2' hm ⟨hA, sm⟩ ⟨rfl, hx⟩
      obtain ⟨y, hy, rfl⟩ := map_at hx
      refine ⟨rfl, _, rfl, _, rfl, p, es, ins, y, rfl, (pa.same s1).same sm, gf, fun lv H3 s3 nlv hlv => ?_⟩
      refine ⟨lv, rfl, ⟨_, .inl (.inl hlv)⟩, ?_⟩
      have nlD : lv ≠ D := (ne_of_none hA nlv).symm
      have bd := bound m
      refine it_by (walk_list (xs := (waitIx es y).map V.int)) (fun j H' => H' D = some (.lst (((((dWrit e.2.2 false).take m).map (waitIx es)).flatten ++ (waitIx es y).take j).map V.int)) ∧ Same H1 H' ∧ But D H3 H') ⟨by rw [List.take_zero, List.append_nil]; exact s3 _ _ hA, sm.trans s3, But.refl _ _⟩ (fun _ _ _ ⟨_, _, b⟩ => .inl (.inl (b _ _ nlD hlv))) ?_ ?_
      · rintro j x Ha Ha' hj ⟨hB, sB, bB⟩ ⟨rfl, hx⟩
        obtain ⟨z, hz, rfl⟩ := map_at hx
        refine ⟨rfl, _, rfl, _, hB, ?_, ?_, sUpd nD sB, bB.trans But.upd⟩
        · have := (List.getElem?_eq_some_iff.mp hz).1
          have w5 : (waitIx es y).length ≤ es.length := selTo_len _ _
          rw [List.length_map, List.length_append, List.length_take]
          omega
        · rw [upd_same, take_snoc hz, ← List.append_assoc, List.map_append (l₂ := [z])]
          rfl
      · rintro Ha ⟨hB, sB, bB⟩
        refine ⟨?_, sB⟩
        have hB : Ha D = some (.lst (((((dWrit e.2.2 false).take m).map (waitIx es)).flatten ++ (waitIx es y).take ((waitIx es y).map V.int).length).map V.int)) := hB
        rw [List.length_map, List.take_length] at hB
        rw [hB, flat_snoc hy]
    rintro H2 ⟨hA, sm⟩
    have hA : H2 D = some (.lst ((((dWrit e.2.2 false).take ((dWrit e.2.2 false).map V.str).length).map (waitIx es)).flatten.map V.int)) := hA
    rw [List.length_map, List.take_length] at hA
    have s12 := s1.trans sm
    refine ⟨_, rfl, p, dx, _, rfl, s12 _ _ h1, p, es, ins, rfl, pa.same s12, es.length, rfl, by omega, _, rfl, by omega, by omega, fun D2 nD2 => ?_⟩
    have toN : ((es.length : Nat) : Int).toNat = es.length := by omega
    refine lc_it (walk_range (lo := 0) (n := ((es.length : Nat) : Int).toNat)) (fun m H' => H' D2 = some (.lst ((selTo (fun j => decide ((j : Int) ∈ hits es e false) && !decide ((j : Int) = (i : Int))) m).map V.int)) ∧ Same H2 H') ⟨upd_same, sNew nD2⟩ (fun _ _ _ _ => trivial) ?_ ?_
    · rintro j x Ha Ha' hj ⟨hB, sB⟩ ⟨rfl, hx⟩
      replace hx : x = .int (j : Nat) := by rw [hx]; show V.int (0 + (j : Int)) = _; rw [Int.zero_add]
      subst hx
      have l0 := selTo_len (fun j => decide ((j : Int) ∈ hits es e false) && !decide ((j : Int) = (i : Int))) j
      have hj : j < ((es.length : Nat) : Int).toNat := hj
      refine ⟨rfl, ?_⟩
      refine ⟨_, rfl, _, rfl, inInts (.inl (.inl (sB _ _ hA))) ⟨_, rfl, ?_⟩⟩
      have e0 : selTo (fun j => decide ((j : Int) ∈ hits es e false) && !decide ((j : Int) = (i : Int))) (j + 1) = if (decide ((j : Int) ∈ hits es e false) && !decide ((j : Int) = (i : Int))) then selTo (fun j => decide ((j : Int) ∈ hits es e false) && !decide ((j : Int) = (i : Int))) j ++ [(j : Int)] else selTo (fun j => decide ((j : Int) ∈ hits es e false) && !decide ((j : Int) = (i : Int))) j := by rw [selTo]
      cases hv : decide ((j : Int) ∈ hits es e false) with
      | false =>
        have hv' : decide ((j : Int) ∈ ((dWrit e.2.2 false).map (waitIx es)).flatten) = false := hv
        rw [hv] at e0
        rw [hv']
        exact ⟨by rw [e0]; exact hB, sB⟩
      | true =>
        have hv' : decide ((j : Int) ∈ ((dWrit e.2.2 false).map (waitIx es)).flatten) = true := hv
        rw [hv] at e0
        rw [hv']
        refine ⟨_, rfl, _, rfl, neI ⟨_, rfl, ?_⟩⟩
        cases hw : decide ((j : Int) = (i : Int)) with
        | true =>
          rw [hw] at e0
          exact ⟨by rw [e0]; exact hB, sB⟩
        | false =>
          rw [hw] at e0
          refine ⟨_, rfl, _, hB, by rw [List.length_map]; omega, ?_, sUpd nD2 sB⟩
          rw [upd_same, e0]
          simp
    rintro H3 ⟨hB, sB⟩
    have hB : H3 D2 = some (.lst ((selTo (fun j => decide ((j : Int) ∈ hits es e false) && !decide ((j : Int) = (i : Int))) ((es.length : Nat) : Int).toNat).map V.int)) := hB
    rw [toN] at hB
    exact k D2 H3 (s12.trans sB) (s12.non nD2) hB
def wkB (es : List Ent) (e : Ent) (i j : Nat) : Bool := decide ((j : Int) ∈ hits es e true) || (decide ((j : Int) ∈ hits es e false) && !decide ((j : Int) = (i : Int)))
def wkIx (es : List Ent) (e : Ent) (i : Nat) : List Int := selTo (wkB es e i) es.length
theorem mem_sel {f : Nat → Bool} {n j : Nat} (h : j < n) : decide ((j : Int) ∈ selTo f n) = f j := by
  rw [Bool.eq_iff_iff, decide_eq_true_iff, mem_selTo]
  constructor
  · rintro ⟨i, h1, h2, h3⟩
    have : j = i := by omega
    subst this
    exact h2
  · exact fun h2 => ⟨j, h, h2, rfl⟩
def spWby (K : PySem.W.Frag) (CG CP CD CT : Addr) : Sp := fun vs H Q _ => ∃ (p : Addr) (es : List Ent) (ins : List Str) (i : Nat) (e : Ent), vs = [.ref p, .int i] ∧ ProgAt K CG CP CD CT H p es ins ∧ GFine es ∧ es[i]? = some e ∧ ∀ q H', Same H H' → H q = none → H' q = some (.lst ((wkIx es e i).map V.int)) → Q (.ref q) H'
theorem ok_wby (T : Tx P K mg a) : FnOk P w K mg base CX0 5 a.f_woken_by a.d_woken_by ["program", "place"] (spWby K a.C_Program a.C_Process a.C_Deed a.C_Term) := by
  have F1 : FnOk P w K mg base CX0 4 a.f_woken_late a.d_woken_late ["program", "place"] (spWlate K a.C_Program a.C_Process a.C_Deed a.C_Term) := ok_wlate T
  have F2 : FnOk P w K mg base CX0 4 a.f_woken_at_once a.d_woken_at_once ["program", "place"] (spWonce K a.C_Program a.C_Process a.C_Deed a.C_Term) := ok_wonce T
  have F3 : FnOk P w K mg base CX0 1 a.f_Program___len__ a.d_Program___len__ ["self"] (spGLen K a.C_Program a.C_Process a.C_Deed a.C_Term) := ok_glen T
  have isF : PySem.W.isFn K (.ref a.f_Program___len__) = true := T.m_Program___len__.fn
  refine T.woken_by.fn.ok sc_woken_by (fun vs H Q E h => ?_) (fun cdv A outer s H vs Q E hr h => ?_)
  · obtain ⟨p, es, ins, i, e, rfl, _⟩ := h
    rfl
  · obtain ⟨p, es, ins, i, e, rfl, pa, gf, hi, k⟩ := h
    have nd := sc_woken_by.nd
    have hr2 : Room 2 _ := hr.mono (by decide)
    have pa0 := pa
    obtain ⟨dx, pl, pt, pg, pw, pn, xs, h1, h2, h3, _⟩ := pa0
    have sl := sl1k
    have few := gf.1
    refine ⟨_, (pss_cons (ps_set (i := 2) nd rfl (Or.inr rfl) (pe_cf T.woken_late F1 hr (pa_cons (pv 0) (pa_cons (pv 1) pa_nil))))
      (pss_cons (ps_set (i := 3) nd rfl (Or.inr rfl) (pe_cf T.woken_at_once F2 hr (pa_cons (pv 0) (pa_cons (pv 1) pa_nil))))
      (pss_one (ps_ret (pe_lc (own := [("other", 4)]) (by rfl) nd (pi_range1 rfl T.bi.range (pa_cons (pe_callB (call_lenO F3 T.m_Program___len__.at_ isF T.b_Program___len__ pass0 hr2) rfl T.bi.len PySem.boot_len (pa_cons (pv 0) pa_nil)) pa_nil)) (blkOk_by (own := [("other", 4)]) (N := ["program", "place", "late", "once", "other"]) (sc := defScope s_woken_by) (by decide +kernel)) (fun _ _ _ _ _ => (pg_name (i := 4) nd rfl (Or.inl rfl))) (fun _ _ _ _ _ => pts_one (PW.pt (pw_or (pt_cmpR (op_inA (K := K)) (pv 4) (pv 2) rfl) (pw_or1 (pt_cmpR (op_inA (K := K)) (pv 4) (pv 3) rfl))))) (fun _ _ _ _ _ => (pv 4))))))), ?_⟩
    refine ⟨_, rfl, _, rfl, p, es, ins, i, e, rfl, pa, gf, hi, fun lt H1 s1 n1 ht => ?_⟩
    refine ⟨_, rfl, _, rfl, p, es, ins, i, e, rfl, pa.same s1, gf, hi, fun lo H2 s2 n2 ho => ?_⟩
    have s12 := s1.trans s2
    have ht2 := s2 _ _ ht
    refine ⟨_, rfl, p, dx, _, rfl, s12 _ _ h1, p, es, ins, rfl, pa.same s12, es.length, rfl, by omega, _, rfl, by omega, by omega, fun D2 nD2 => ?_⟩
    have toN : ((es.length : Nat) : Int).toNat = es.length := by omega
    refine lc_it (walk_range (lo := 0) (n := ((es.length : Nat) : Int).toNat)) (fun m H' => H' D2 = some (.lst ((selTo (wkB es e i) m).map V.int)) ∧ Same H2 H') ⟨upd_same, sNew nD2⟩ (fun _ _ _ _ => trivial) ?_ ?_
    · rintro j x Ha Ha' hj ⟨hB, sB⟩ ⟨rfl, hx⟩
      replace hx : x = .int (j : Nat) := by rw [hx]; show V.int (0 + (j : Int)) = _; rw [Int.zero_add]
      subst hx
      have l0 := selTo_len (wkB es e i) j
      have hj : j < ((es.length : Nat) : Int).toNat := hj
      have hj2 : j < es.length := by omega
      refine ⟨rfl, ?_⟩
      refine ⟨_, rfl, _, rfl, inInts (.inl (.inl (sB _ _ ht2))) ⟨_, rfl, ?_⟩⟩
      have e0 : selTo (wkB es e i) (j + 1) = if wkB es e i j then selTo (wkB es e i) j ++ [(j : Int)] else selTo (wkB es e i) j := by rw [selTo]
      rw [mem_sel hj2]
      unfold wkB at e0 hB ⊢
      cases hv : decide ((j : Int) ∈ hits es e true) with
      | true =>
        rw [hv] at e0
        refine ⟨_, rfl, _, hB, by rw [List.length_map]; exact Nat.lt_of_le_of_lt l0 (by omega), ?_, sUpd nD2 sB⟩
        rw [upd_same, e0]
        simp
      | false =>
        rw [hv] at e0
        refine ⟨_, rfl, _, rfl, inInts (.inl (.inl (sB _ _ ho))) ⟨_, rfl, ?_⟩⟩
        rw [mem_sel hj2]
        cases hw : (decide ((j : Int) ∈ hits es e false) && !decide ((j : Int) = (i : Int))) with
        | false =>
          rw [hw] at e0
          exact ⟨by rw [e0]; exact hB, sB⟩
        | true =>
          rw [hw] at e0
          refine ⟨_, rfl, _, hB, by rw [List.length_map]; exact Nat.lt_of_le_of_lt l0 (by omega), ?_, sUpd nD2 sB⟩
          rw [upd_same, e0]
          simp
    rintro H3 ⟨hB, sB⟩
    have hB : H3 D2 = some (.lst ((selTo (wkB es e i) ((es.length : Nat) : Int).toNat).map V.int)) := hB
    rw [toN] at hB
    exact k D2 H3 (s12.trans sB) (s12.non nD2) hB
end
end Z
set_option maxRecDepth 100000
set_option maxHeartbeats 4000000
set_option pp.maxSteps 500
namespace Z
open PySem PySem.Spec PyProof.Rows L2
theorem placeO_lt {ns : List Str} {o : Option Str} {i : Nat} (h : placeO ns o = some i) : i < ns.length := by
  cases o with
  | none => cases h
  | some s =>
    have h : (if s ∈ ns then some (ns.idxOf s) else none) = some i := h
    by_cases m : s ∈ ns
    · rw [if_pos m] at h
      cases h
      exact List.idxOf_lt_length_of_mem m
    · rw [if_neg m] at h
      cases h
theorem FliesF.weak {E : XK} {X : Addr} {f : Str} {H H1 : Hp} {v : V} (s : Same H H1) (h : FliesF E X f H v) : FliesF E X f H1 v := fun d H2 s2 n => h d H2 (s.trans s2) n
def PairT (H : Hp) (v : V) (ab : Str × Str) : Prop := ∃ t, v = .ref t ∧ H t = some (.tup [.str ab.1, .str ab.2])
theorem PairT.tk {H H' : Hp} {v : V} {ab : Str × Str} (k : TK H H') (h : PairT H v ab) : PairT H' v ab := by
  obtain ⟨t, rfl, h⟩ := h
  exact ⟨t, rfl, k.tup _ _ h⟩
abbrev Pairs (H : Hp) : List V → List (Str × Str) → Prop := All2 (PairT H)
theorem Pairs.tk {H H' : Hp} {us : List V} {ps : List (Str × Str)} (k : TK H H') (h : Pairs H us ps) : Pairs H' us ps := h.imp fun _ _ h => h.tk k
def pairD (ab : Str × Str) : PyData := .tuple [.str ab.1, .str ab.2]
theorem Pairs.dp {K : PySem.W.Frag} {H : Hp} : ∀ {us : List V} {ps : List (Str × Str)}, Pairs H us ps → DpAll K H us (ps.map pairD)
  | _, _, .nil => .nil
  | _, _, .cons h a => by
    obtain ⟨t, rfl, h⟩ := h
    exact .cons (.tup (.inl (.inl h)) (.cons (.str _) (.cons (.str _) .nil))) (Pairs.dp a)
def nmAt (es : List Ent) (z : Int) : Str := ((es[z.toNat]?).map (·.1)).getD ""
def prs (es : List Ent) (e : Ent) (i m : Nat) : List (Str × Str) := (selTo (wkB es e i) m).map fun z => (e.1, nmAt es z)
def allP (es : List Ent) : Nat → List (Str × Str)
  | 0 => []
  | n + 1 => match es[n]? with
    | some e => allP es n ++ prs es e n es.length
    | none => allP es n
theorem prs_len (es : List Ent) (e : Ent) (i m : Nat) : (prs es e i m).length ≤ m := by
  unfold prs
  rw [List.length_map]
  exact selTo_len _ _
theorem allP_len (es : List Ent) : ∀ n, (allP es n).length ≤ n * es.length
  | 0 => by simp [allP]
  | n + 1 => by
    have ih := allP_len es n
    have e1 : (n + 1) * es.length = n * es.length + es.length := Nat.succ_mul _ _
    unfold allP
    split
    · rename_i e he
      rw [List.length_append]
      have := prs_len es e n es.length
      omega
    · omega
theorem allP_at {es : List Ent} {n : Nat} {e : Ent} (h : es[n]? = some e) : allP es (n + 1) = allP es n ++ prs es e n es.length := by
  rw [allP, h]
section
variable {P : Program} {w : World} {K : PySem.W.Frag} {mg : Str → Option Value} {base : Heap} {a : Ad}
def spWakes (K : PySem.W.Frag) (CG CP CD CT X : Addr) : Sp := fun vs H Q E => ∃ (p : Addr) (es : List Ent) (ins : List Str) (x y : V) (ox oy : Option Str), vs = [.ref p, x, y] ∧ ProgAt K CG CP CD CT H p es ins ∧ GFine es ∧ NmQ K H x ox ∧ NmQ K H y oy ∧ (placeO (es.map (·.1)) ox = none → FliesF E X "who" H x) ∧
  (∀ i, placeO (es.map (·.1)) ox = some i → placeO (es.map (·.1)) oy = none → FliesF E X "who" H y) ∧ (∀ i j e H', placeO (es.map (·.1)) ox = some i → placeO (es.map (·.1)) oy = some j → es[i]? = some e → Same H H' → Q (.bl (wkB es e i j)) H')
theorem ok_wakes (T : Tx P K mg a) : FnOk P w K mg base (L2.CX P w) 6 a.f_wakes a.d_wakes ["program", "one", "other"] (spWakes K a.C_Program a.C_Process a.C_Deed a.C_Term a.C_NoName) := by
  have F1 : FnOk P w K mg base (L2.CX P w) 2 a.f_Program_place_of a.d_Program_place_of ["self", "name"] (spGPlace K a.C_Program a.C_Process a.C_Deed a.C_Term a.C_NoName) := ok_gplace T
  have F2 : FnOk P w K mg base CX0 5 a.f_woken_by a.d_woken_by ["program", "place"] (spWby K a.C_Program a.C_Process a.C_Deed a.C_Term) := ok_wby T
  refine T.wakes.fn.okX sc_wakes (fun vs H Q E h => ?_) (fun cdv A outer s H vs Q E hr h => ?_)
  · obtain ⟨p, es, ins, x, y, ox, oy, rfl, _⟩ := h
    rfl
  · obtain ⟨p, es, ins, x, y, ox, oy, rfl, pa, gf, hx, hy, q1, q2, q3⟩ := h
    have nd := sc_wakes.nd
    have hr2 : Room 2 _ := hr.mono (by decide)
    have pa0 := pa
    obtain ⟨dx, pl, pt, pg, pw, pn, xs, h1, _⟩ := pa0
    refine ⟨_, (pss_cons (ps_par (i := 3) (j := 4) (by rfl) nd rfl rfl (by decide) rfl rfl (pa_cons (pe_meth (E := E) (pv 0) T.c_Program T.m_Program_place_of F1 hr2 T.b_Program_place_of .nil (passes_call (takes_of rfl rfl rfl rfl) (fun _ _ _ _ z => z)) (pa_cons (pv 1) pa_nil)) (pa_cons (pe_meth (E := E) (pv 0) T.c_Program T.m_Program_place_of F1 hr2 T.b_Program_place_of .nil (passes_call (takes_of rfl rfl rfl rfl) (fun _ _ _ _ z => z)) (pa_cons (pv 2) pa_nil)) pa_nil)) (by rfl))
      (pss_one (ps_ret (pe_cmpR op_inA (pv 4) (pe_cf T.woken_by F2 hr (pa_cons (pv 0) (pa_cons (pv 3) pa_nil))) rfl)))), ?_⟩
    refine ⟨_, rfl, p, dx, _, rfl, h1, rfl, _, rfl, p, es, ins, x, ox, rfl, pa, hx, q1, fun i H1 e1 s1 => ?_⟩
    refine ⟨_, rfl, p, dx, _, rfl, s1 _ _ h1, rfl, _, rfl, p, es, ins, y, oy, rfl, pa.same s1, hy.same s1, fun e2 => (q2 i e1 e2).weak s1, fun j H2 e2 s2 => ?_⟩
    have s12 := s1.trans s2
    have hi := placeO_lt e1
    rw [List.length_map] at hi
    have hj := placeO_lt e2
    rw [List.length_map] at hj
    have he : es[i]? = some es[i] := List.getElem?_eq_getElem hi
    refine ⟨_, _, rfl, ?_⟩
    refine ⟨_, rfl, _, rfl, _, rfl, p, es, ins, i, _, rfl, pa.same s12, gf, he, fun l H3 s3 nl hl => inInts (.inl (.inl hl)) ?_⟩
    unfold wkIx
    rw [mem_sel hj]
    exact q3 i j _ H3 e1 e2 he (s12.trans s3)
def spWakings (K : PySem.W.Frag) (CG CP CD CT : Addr) : Sp := fun vs H Q _ => ∃ (p : Addr) (es : List Ent) (ins : List Str), vs = [.ref p] ∧ ProgAt K CG CP CD CT H p es ins ∧ GFine es ∧ ∀ q us H', Same H H' → H q = none → H' q = some (.lst us) → Pairs H' us (allP es es.length) → Q (.ref q) H'
theorem ok_wakings (T : Tx P K mg a) : FnOk P w K mg base CX0 6 a.f_wakings a.d_wakings ["program"] (spWakings K a.C_Program a.C_Process a.C_Deed a.C_Term) := by
  have F1 : FnOk P w K mg base CX0 1 a.f_Program_names a.d_Program_names ["self"] (spGNames K a.C_Program a.C_Process a.C_Deed a.C_Term) := ok_gnames T
  have F2 : FnOk P w K mg base CX0 5 a.f_woken_by a.d_woken_by ["program", "place"] (spWby K a.C_Program a.C_Process a.C_Deed a.C_Term) := ok_wby T
  have F3 : FnOk P w K mg base CX0 1 a.f_Program___len__ a.d_Program___len__ ["self"] (spGLen K a.C_Program a.C_Process a.C_Deed a.C_Term) := ok_glen T
  have isF : PySem.W.isFn K (.ref a.f_Program___len__) = true := T.m_Program___len__.fn
  refine T.wakings.fn.ok sc_wakings (fun vs H Q E h => ?_) (fun cdv A outer s H vs Q E hr h => ?_)
  · obtain ⟨p, es, ins, rfl, _⟩ := h
    rfl
  · obtain ⟨p, es, ins, rfl, pa, gf, k⟩ := h
    have nd := sc_wakings.nd
    have hr1 : Room 1 _ := hr.mono (by decide)
    have hr2 : Room 2 _ := hr.mono (by decide)
    have sl := sl1k
    have few := gf.1
    have pa0 := pa
    obtain ⟨dx, pl, pt, pg, pw, pn, xs, h1, _⟩ := pa0
    refine ⟨_, (pss_cons (ps_set (i := 1) nd rfl (Or.inr rfl) (pe_meth0 (pv 0) T.c_Program T.m_Program_names F1 hr1 T.b_Program_names .nil pass0))
      (pss_one (ps_ret (pe_lc2 (own := [("place", 2), ("other", 3)]) (vs1 := [3]) (by rfl) nd (pi_range1 rfl T.bi.range (pa_cons (pe_callB (call_lenO F3 T.m_Program___len__.at_ isF T.b_Program___len__ pass0 hr2) rfl T.bi.len PySem.boot_len (pa_cons (pv 0) pa_nil)) pa_nil)) (blkOk_by (own := [("place", 2), ("other", 3)]) (N := ["program", "names", "place", "other"]) (sc := defScope s_wakings) (by decide +kernel)) (by decide) (fun _ _ _ _ _ => (pg_name (i := 2) nd rfl (Or.inl rfl))) (fun _ _ _ _ _ => pts_nil) (fun _ _ _ _ _ => (pi_listA (K := K) (pe_cf T.woken_by F2 hr (pa_cons (pv 0) (pa_cons (pv 2) pa_nil))))) (fun _ _ _ _ _ => (pg_name (i := 3) nd rfl (Or.inl rfl))) (fun _ _ _ _ _ => pts_nil) (fun _ _ _ _ _ => (pe_tup (pa_cons (pe_ix (ix_A (K := K)) (pv 1) (pv 2) (fun _ _ => rfl)) (pa_cons (pe_ix (ix_A (K := K)) (pv 1) (pv 3) (fun _ _ => rfl)) pa_nil)))))))), ?_⟩
    refine ⟨_, rfl, p, dx, _, rfl, h1, rfl, p, es, ins, rfl, pa, fun ln H1 s1 nln hln => ?_⟩
    refine ⟨_, rfl, p, dx, _, rfl, s1 _ _ h1, p, es, ins, rfl, pa.same s1, es.length, rfl, by omega, _, rfl, by omega, by omega, fun D nD => ?_⟩
    have toN : ((es.length : Nat) : Int).toNat = es.length := by omega
    have bnd : ∀ n, n ≤ es.length → (allP es n).length ≤ 25 := fun n hn => by
      have := allP_len es n
      have : n * es.length ≤ 5 * 5 := Nat.mul_le_mul (by omega) few
      omega
    refine it_by (walk_range (lo := 0) (n := ((es.length : Nat) : Int).toNat)) (fun m H' => Same H1 H' ∧ ∃ us, H' D = some (.lst us) ∧ Pairs H' us (allP es m)) ⟨sNew nD, [], upd_same, .nil⟩ (fun _ _ _ _ => trivial) ?_ ?_
    · rintro i x Ha Ha' hi ⟨sm, us, hA, hP⟩ ⟨rfl, hx⟩
      replace hx : x = .int (i : Nat) := by rw [hx]; show V.int (0 + (i : Int)) = _; rw [Int.zero_add]
      subst hx
      have hi : i < ((es.length : Nat) : Int).toNat := hi
      have hi2 : i < es.length := by omega
      have he : es[i]? = some es[i] := List.getElem?_eq_getElem hi2
      generalize es[i] = e at he
      have s1m := s1.trans sm
      refine ⟨rfl, _, rfl, _, rfl, p, es, ins, i, e, rfl, pa.same s1m, gf, he, fun lw H3 s3 nlw hlw => ?_⟩
      refine ⟨lw, rfl, ⟨_, .inl (.inl hlw)⟩, ?_⟩
      have nlD : lw ≠ D := (ne_of_none hA nlw).symm
      have b1 := bnd i (by omega)
      have wl : (wkIx es e i).length ≤ es.length := selTo_len _ _
      refine it_by (walk_list (xs := (wkIx es e i).map V.int)) (fun j H' => Same H1 H' ∧ But D H3 H' ∧ ∃ us, H' D = some (.lst us) ∧ Pairs H' us (allP es i ++ ((wkIx es e i).take j).map fun z => (e.1, nmAt es z))) ⟨sm.trans s3, But.refl _ _, us, s3 _ _ hA, by rw [List.take_zero, List.map_nil, List.append_nil]; exact hP.tk (TK.of s3)⟩ (fun _ _ _ ⟨_, b, _⟩ => .inl (.inl (b _ _ nlD hlw))) ?_ ?_
      · rintro j x Hb Hb' hj ⟨sB, bB, vs, hB, hQ⟩ ⟨rfl, hx⟩
        obtain ⟨z, hz, rfl⟩ := map_at hx
        have zm := List.mem_of_getElem? hz
        obtain ⟨j2, hj2, _, rfl⟩ := mem_selTo.mp zm
        have hf : es[j2]? = some es[j2] := List.getElem?_eq_getElem hj2
        generalize es[j2] = f at hf
        have n1 : ((es.map (·.1)).map V.str)[i]? = some (.str e.1) := by rw [List.getElem?_map, List.getElem?_map, he]; rfl
        have n2 : ((es.map (·.1)).map V.str)[j2]? = some (.str f.1) := by rw [List.getElem?_map, List.getElem?_map, hf]; rfl
        have hln2 := sB _ _ hln
        refine ⟨rfl, _, rfl, _, rfl, ixL (.inl (.inl hln2)) n1 ?_⟩
        refine ⟨_, rfl, _, rfl, ixL (.inl (.inl hln2)) n2 ?_⟩
        refine ⟨by show 2 ≤ sizeLine; omega, fun t nt => ?_⟩
        have sT := sNew (o := .tup [.str e.1, .str f.1]) nt
        have hB2 := sT _ _ hB
        have lq := hQ.length
        refine ⟨_, hB2, ?_, sUpd nD (sB.trans sT), (bB.trans (But.same sT D)).trans But.upd, _, upd_same, ?_⟩
        · have := (List.getElem?_eq_some_iff.mp hz).1
          rw [lq, List.length_append, List.length_map, List.length_take]
          omega
        · have hQ2 := (hQ.tk (TK.of sT)).tk (TK.lst (o := .lst (vs ++ [.ref t])) hB2)
          rw [take_snoc hz, List.map_append, ← List.append_assoc]
          refine hQ2.app (.cons ⟨t, rfl, ?_⟩ .nil)
          have e3 : nmAt es (j2 : Int) = f.1 := by
            unfold nmAt
            rw [Int.toNat_natCast, hf]
            rfl
          show _ = some (HO.tup [V.str e.1, V.str (nmAt es (j2 : Int))])
          rw [e3]
          exact (TK.lst (o := .lst (vs ++ [.ref t])) hB2).tup _ _ upd_same
      · rintro Hb ⟨sB, bB, vs, hB, hQ⟩
        refine ⟨sB, vs, hB, ?_⟩
        rw [allP_at he]
        have hQ : Pairs Hb vs (allP es i ++ ((wkIx es e i).take ((wkIx es e i).map V.int).length).map fun z => (e.1, nmAt es z)) := hQ
        rw [List.length_map, List.take_length] at hQ
        exact hQ
    rintro H3 ⟨sm, us, hA, hP⟩
    have hP : Pairs H3 us (allP es ((es.length : Nat) : Int).toNat) := hP
    rw [toN] at hP
    exact k D us H3 (s1.trans sm) (s1.non nD) hA hP
end
end Z
set_option maxRecDepth 100000
set_option maxHeartbeats 4000000
set_option pp.maxSteps 500
namespace Z
open PySem PySem.Spec PyProof.Rows L2
def wo (D : Addr) (H : Hp) : Hp := fun c => if c = D then none else H c
theorem wo_at {D c : Addr} {H : Hp} (h : c ≠ D) : wo D H c = H c := if_neg h
theorem wo_self {D : Addr} {H : Hp} : wo D H D = none := if_pos rfl
theorem wo_le {D : Addr} {H : Hp} : Same (wo D H) H := fun c o h => by
  by_cases e : c = D
  · subst e
    rw [wo_self] at h
    cases h
  · rwa [wo_at e] at h
theorem wo_upd {D : Addr} {H : Hp} {o : HO} : wo D (upd H D o) = wo D H := by
  funext c
  by_cases e : c = D
  · subst e
    rw [wo_self, wo_self]
  · rw [wo_at e, wo_at e, upd_ne e]
theorem wo_same {D : Addr} {H H' : Hp} (s : Same H H') : Same (wo D H) (wo D H') := fun c o h => by
  by_cases e : c = D
  · subst e
    rw [wo_self] at h
    cases h
  · rw [wo_at e] at h ⊢
    exact s c o h
theorem wo_of {D : Addr} {H H' : Hp} (n : H D = none) (s : Same H H') : Same H (wo D H') := fun c o h => by
  rw [wo_at (ne_of_none h n)]
  exact s c o h
theorem wo_tk {H : Hp} {D : Addr} {xs : List V} (h : H D = some (.lst xs)) : TK H (wo D H) := ⟨fun b ys e => by rw [wo_at (ne_of e h (by intro z; cases z))]; exact e, fun b o u e => by rw [wo_at (ne_of e h (by intro z; cases z))]; exact e⟩
theorem DeedsAt.wo {K : PySem.W.Frag} {CD CT : Addr} {H : Hp} {D : Addr} {xs : List V} {qs : List Addr} {ds : List DD} (hD : H D = some (.lst xs)) (h : DeedsAt K CD CT H qs ds) : DeedsAt K CD CT (Z.wo D H) qs ds :=
  h.kept (fun c C dx fs e _ => by rw [wo_at (ne_of e hD (by intro z; cases z))]; exact e) (wo_tk hD)
theorem ProcIn.wo {G : Hp} {K : PySem.W.Frag} {CP CD CT : Addr} {H : Hp} {p D : Addr} {e : Ent} {o : HO} {xs : List V} (g : G D = some o) (hD : H D = some (.lst xs)) (h : ProcIn G K CP CD CT H p e.1 e.2.1 e.2.2) : PV K CP CD CT (Z.wo D H) (.ref p) e := by
  obtain ⟨dx', pw, pd, qs, z1, z2, z3, z4, z5, z6⟩ := h
  exact ⟨p, rfl, dx', pw, pd, qs, by rw [wo_at (ne_of z1 hD (by intro z; cases z))]; exact z1, by rw [wo_at (ne_of_none g z5).symm]; exact z2, by rw [wo_at (ne_of_none g z6).symm]; exact z3, z4.wo hD⟩
theorem allO_get {α : Type} {es : List α} : ∀ n, n ≤ es.length → allO (fun i => es[i]?) n = some (es.take n)
  | 0, _ => rfl
  | n + 1, h => by
    rw [allO, allO_get n (by omega)]
    have hn := List.getElem?_eq_getElem (l := es) (i := n) h
    show (match some (es.take n), es[n]? with | some l, some d => some (l ++ [d]) | _, _ => none) = _
    rw [hn, take_snoc hn]
section
variable {K : PySem.W.Frag} {CP CD CT : Addr} {H : Hp}
theorem ps_ok {p : Addr} {xs : List V} {es : List Ent} (h : Seq K H p xs) (hs : PVs K CP CD CT H xs es) (l1 : 1 ≤ es.length) (l5 : es.length ≤ 5) : PsQ K CP CD CT H (.ref p) (some es) := by
  have le := hs.length
  have := PsQ.seq (CP := CP) (CD := CD) (CT := CT) h (fun i => es[i]?) fun i x hx => by
    obtain ⟨e, he, q, rfl, hq⟩ := hs.get hx
    show PIt K CP CD CT H (.ref q) (es[i]?)
    rw [he]
    exact .own hq
  rw [if_pos (by omega), le, allO_get _ (Nat.le_refl _), List.take_length] at this
  exact this
theorem pitP {q : Addr} {e : Ent} (h : PV K CP CD CT H (.ref q) e) : PIt K CP CD CT H (.ref q) (some e) := by
  obtain ⟨q', e1, h⟩ := h
  cases e1
  exact .own h
theorem in_ok {p : Addr} {ins : List Str} (h : Seq K H p (ins.map V.str)) (nd : ins.Nodup) (hw : ∀ y ∈ ins, Word y) (l1 : 1 ≤ ins.length) (l3 : ins.length ≤ 3) : InQ K H (.ref p) (some ins) := by
  have e : unlikeB 1 3 (ins.map V.str) = true := by
    unfold unlikeB
    rw [sv_str, List.length_map, decide_eq_true (show (1 : Int) ≤ (ins.length : Int) by omega), decide_eq_true (show (ins.length : Int) ≤ 3 by omega), decide_eq_true nd, Bool.true_and, Bool.true_and, Bool.and_true, List.all_map, List.all_eq_true]
    intro y hy
    exact wordB_iff.mpr (hw y hy)
  have := InQ.seq h (fun y hy => by
    obtain ⟨z, hz, rfl⟩ := List.mem_map.mp hy
    exact .str z (by have := (hw z hz).2.1; have := sl1k; omega)) (by rw [List.length_map]; omega)
  rw [if_pos e, sv_str] at this
  exact this
end
section
variable {P : Program} {w : World} {K : PySem.W.Frag} {mg : Str → Option Value} {base : Heap} {a : Ad}
def spGMade (K : PySem.W.Frag) (CG CP CD CT : Addr) : Sp := fun vs H Q _ => ∃ (d F ip : Addr) (us : List V) (es : List Ent) (ins : List Str) (N : Addr → Prop) (mp md n : Nat), vs = [.ref d] ∧ H d = some (.dK (dictPI (.ref F) (.ref ip))) ∧ H F = some (.lst us) ∧ H ip = some (.lst (ins.map V.str)) ∧ EntTups N K H us es ∧ PlainFine mp md n es ins ∧ mp ≤ 5 ∧ md ≤ 4 ∧ n ≤ 3 ∧
  ∀ g H', Same H H' → ProgAt K CG CP CD CT H' g es ins → Q (.ref g) H'
theorem ok_gmade (T : Tx P K mg a) : FnOk P w K mg base CX0 17 a.f__law_made a.d__law_made ["plain"] (spGMade K a.C_Program a.C_Process a.C_Deed a.C_Term) := by
  have F1 : FnOk P w K mg base (L2.CX P w) 11 a.f_Program___init__ a.d_Program___init__ ["self", "processes", "inputs"] (spGInit K a.C_Program a.C_Process a.C_Deed a.C_Term a.C_NoProgram) := ok_ginit T
  have F2 : FnOk P w K mg base CX0 16 a.f__law_made_process a.d__law_made_process ["entry"] (spMade K a.C_Process a.C_Deed a.C_Term) := ok_made T
  refine T._law_made.fn.ok sc__law_made (fun vs H Q E h => ?_) (fun cdv A outer s H vs Q E hr h => ?_)
  · obtain ⟨d, F, ip, us, es, ins, N, mp, md, n, rfl, _⟩ := h
    rfl
  · obtain ⟨d, F, ip, us, es, ins, N, mp, md, n, rfl, hd, hF, hip, en, pf, hmp, hmd, hn, k⟩ := h
    have nd := sc__law_made.nd
    have hr12 : Room 12 _ := hr.mono (by decide)
    obtain ⟨e1, e4, made, fine, hfw, iw, ind, i1, i2⟩ := pf.prog hmp hmd hn
    have sl := sl1k
    have le := en.length
    refine ⟨_, (pss_one (ps_ret (pe_make T.mk_Program F1 hr12 rfl T.g_Program T.b_Program___init__ .nil passL (pa_cons (pe_lc (own := [("entry", 1)]) (by rfl) nd (pi_list (pe_dget hr.un1 (pv 0) pe_str (fun _ _ => rfl))) (blkOk_by (own := [("entry", 1)]) (N := ["plain", "entry"]) (sc := defScope s__law_made) (by decide +kernel)) (fun _ _ _ _ _ => (pg_name (i := 1) nd rfl (Or.inl rfl))) (fun _ _ _ _ _ => pts_nil) (fun _ _ _ _ _ => (pe_cf T._law_made_process F2 hr (pa_cons (pv 1) pa_nil)))) (pa_cons (pe_dget hr.un1 (pv 0) pe_str (fun _ _ => rfl)) pa_nil))))), ?_⟩
    refine ⟨_, rfl, d, .ref F, rfl, .inl ⟨_, .inr "processes", .inl hd, rfl, valPI1.symm⟩, F, rfl, ⟨_, .inl (.inl hF)⟩, fun D nD => ?_⟩
    refine lc_it (walk_list (xs := us)) (fun i H' => ∃ acc : List V, H' D = some (.lst acc) ∧ PVs K a.C_Process a.C_Deed a.C_Term (wo D H') acc (es.take i) ∧ Same H H') ⟨[], upd_same, .nil, sNew nD⟩ (fun _ _ _ ⟨_, _, _, sm⟩ => .inl (.inl (sm _ _ hF))) ?_ ?_
    · rintro j x Ha Ha' hj ⟨acc, hA, al, sm⟩ ⟨rfl, hx⟩
      have hj' : j < us.length := hj
      obtain ⟨e, hE, et⟩ := en.get hx
      have la := al.length
      rw [List.length_take] at la
      refine ⟨rfl, _, rfl, x, e, _, rfl, et.same sm, made e (List.mem_of_getElem? hE), fun q Hb sb hq => ⟨acc, sb _ _ hA, by omega, acc ++ [.ref q], upd_same, ?_, sUpd nD (sm.trans sb)⟩⟩
      rw [wo_upd, take_snoc hE]
      exact (PVs.same (wo_same sb) al).snoc (ProcIn.wo hA (sb _ _ hA) hq)
    rintro H4 ⟨acc, hD, al, s4⟩
    have al : PVs K a.C_Process a.C_Deed a.C_Term (wo D H4) acc (es.take us.length) := al
    rw [le, List.take_length] at al
    have al : PVs K a.C_Process a.C_Deed a.C_Term H4 acc es := PVs.same wo_le al
    refine ⟨_, rfl, d, .ref ip, rfl, .inl ⟨_, .inr "inputs", .inl (s4 _ _ hd), rfl, valPI2.symm⟩, ?_⟩
    intro o dx no nx ne
    have s0 : Same H4 (upd (upd H4 dx (.own o)) o (.ins a.C_Program dx [])) := (sNew nx).trans (sNew (by rw [upd_ne ne.symm]; exact no))
    have ho : (upd (upd H4 dx (.own o)) o (.ins a.C_Program dx [])) o = some (.ins a.C_Program dx []) := upd_same
    have but : ∀ {H' : Hp}, But o (upd (upd H4 dx (.own o)) o (.ins a.C_Program dx [])) H' → Same H4 H' := fun b c u hc => b c u (ne_of_none hc no) (s0 _ _ hc)
    generalize upd (upd H4 dx (.own o)) o (.ins a.C_Program dx []) = H0 at s0 ho but ⊢
    have hx : PsQ K a.C_Process a.C_Deed a.C_Term H4 (.ref D) (some es) := ps_ok (.inl hD) al e1 (by omega)
    have hy : InQ K H4 (.ref ip) (some ins) := in_ok (.inl (s4 _ _ hip)) ind iw i1 (by omega)
    refine ⟨o, dx, .ref D, .ref ip, some es, some ins, rfl, ho, hx.same s0, hy.same s0, fun es' e => by cases e; exact fine, fun part hf => ?_, fun es' ins' H' e1 e2 _ b hP => ⟨rfl, ?_⟩⟩
    · rw [hfw] at hf
      cases hf
    · cases e1
      cases e2
      exact k o H' (s4.trans (but b)) hP
end
end Z
set_option maxRecDepth 100000
set_option maxHeartbeats 4000000
set_option pp.maxSteps 500
namespace Z
open PySem PySem.Spec PyProof.Rows L2
theorem boot_KeyError : bootBuiltins "KeyError" = some (.type "KeyError") := by decide +kernel
def rIsB (K : PySem.W.Frag) (D a : Addr) : List V → Hp → VK → Prop := fun xs H Q => ∃ n : String, xs = [.ref a, .ty n] ∧ PySem.W.kitOne K (.ref D) (.type n) = some true ∧ Q (.bl true) H
theorem call_isB {X : Cx} {a D : Addr} {oe : Obj} {pn : List (Addr × Obj)} {cls : Value} {d : Option Addr} (hz : Zc cls d oe) (hcls : cls = .ref D) : CallR (X.suite a ((a, oe) :: pn)) (.builtin "isinstance") (rIsB X.K D a) := by
  intro pins s σ H xs us Q I r ⟨n, e, hk, q⟩
  subst e
  obtain ⟨u1, u2, rfl, r1, r2⟩ := vals2 r
  cases (show u1 = Value.ref a from r1)
  cases (show u2 = Value.type n from r2)
  obtain ⟨hget, _⟩ := I.pin (a, oe) (List.mem_append.mpr (.inl List.mem_cons_self))
  refine call_isinstance (S := fun _ R s => (X.K.In s.heap ∧ s.heap.get? a = some oe) ∧ ∀ tk, R (.ok (.ret (.bool true))) { s with toks := tk })
    (fun prog w A R s hs => isinstance_outer (ans_yes (K := X.K) (P := fun h => h.get? a = some oe) (fun M h _ hp => ?_) hk 0 _ prog w A R s hs) (fun z => nomatch z)) ⟨⟨I.kIn, hget⟩, fun tk => ⟨.bl true, H, I.kept (t' := tk) fun _ _ z => z, rfl, q⟩⟩
  have e1 : oe.cls = .ref D := by rw [← hcls]; exact hz.1
  rw [← e1]
  exact (PySem.W.Looks.ld (part := none) hp).andThen .now
def mayB (e f : Ent) (b : Bool) : Bool := e.2.2.any fun d => decide (d.1 ∈ f.2.1) && (d.2.2 || !b)
section
variable {P : Program} {w : World} {K : PySem.W.Frag} {mg : Str → Option Value} {base : Heap} {a : Ad}
def spMay (K : PySem.W.Frag) : Sp := fun vs H Q _ => ∃ (x y : V) (e f : Ent) (N : Addr → Prop) (b : Bool), vs = [x, y, .bl b] ∧ EntTup N K H x e ∧ EntTup N K H y f ∧ ∀ H', Same H H' → Q (.bl (mayB e f b)) H'
theorem ok_may (T : Tx P K mg a) : FnOk P w K mg base CX0 1 a.f__law_may_wake a.d__law_may_wake ["near", "far", "is_same"] (spMay K) := by
  refine T._law_may_wake.fn.ok sc__law_may_wake (fun vs H Q E h => ?_) (fun cdv A outer s H vs Q E hr h => ?_)
  · obtain ⟨x, y, e, f, N, b, rfl, _⟩ := h
    rfl
  · obtain ⟨x, y, e, f, N, b, rfl, ⟨p, wl, dl, us, rfl, t1, t2, t3, t4, _⟩, ⟨p2, wl2, dl2, us2, rfl, v1, v2, v3, v4, _⟩, k⟩ := h
    have nd := sc__law_may_wake.nd
    refine ⟨_, (pss_cons (ps_for PassesOwn.never rfl (pi_list (pe_ix ix_A (pv 0) pe_int (fun _ _ => rfl))) (pg_tup rfl (pgs_cons (pg_name (i := 3) nd rfl (Or.inl rfl)) (pgs_cons (pg_name (i := 4) nd rfl (Or.inl rfl)) (pgs_cons (pg_name (i := 5) nd rfl (Or.inl rfl)) pgs_nil))))
        (pss_one (ps_if (PW.pt (pw_and (pt_cmpR op_inA (pv 3) (pe_ix ix_A (pv 1) pe_int (fun _ _ => rfl)) rfl) (pw_and1 (PW.pt (pw_or (pt_val (pv 4)) (pw_or1 (pt_not (pt_val (pv 2)))))))))
          (pss_one (ps_ret pe_bl)) pss_nil)))
      (pss_one (ps_ret pe_bl))), ?_⟩
    refine ⟨_, rfl, ixT (i := 2) (.inl (.inl t1)) rfl ⟨dl, rfl, ⟨us, .inl (.inl t3)⟩, ?_⟩⟩
    refine for_it (walk_list (xs := us)) (fun m σ H' => ∃ (o3 o4 o5 : Option V), σ = [some (.ref p), some (.ref p2), some (.bl b), o3, o4, o5] ∧ Same H H' ∧ ((e.2.2.take m).any fun d => decide (d.1 ∈ f.2.1) && (d.2.2 || !b)) = false) ⟨none, none, none, rfl, Same.refl _, rfl⟩ (fun _ _ _ _ ⟨_, _, _, _, sm, _⟩ => .inl (.inl (sm _ _ t3))) ?_ ?_
    · rintro m x σ H1 H1' hn ⟨o3, o4, o5, rfl, sm, hno⟩ ⟨rfl, hx⟩
      obtain ⟨d, hD, q, u, rfl, z1, z2⟩ := t4.get hx
      have an : ((e.2.2.take (m + 1)).any fun d => decide (d.1 ∈ f.2.1) && (d.2.2 || !b)) = (decide (d.1 ∈ f.2.1) && (d.2.2 || !b)) := by
        rw [take_snoc hD, List.any_append, hno]
        simp
      have yes : (decide (d.1 ∈ f.2.1) && (d.2.2 || !b)) = true → mayB e f b = true := fun h => List.any_eq_true.mpr ⟨d, List.mem_of_getElem? hD, h⟩
      refine ⟨q, _, rfl, .inl (.inl (sm _ _ z1)), rfl, _, _, rfl, _, _, rfl, _, _, rfl, rfl, ?_⟩
      refine ⟨_, rfl, _, rfl, ixT (i := 1) (.inl (.inl (sm _ _ v1))) rfl (inStrs (.inl (.inl (sm _ _ v2))) ⟨_, rfl, ?_⟩)⟩
      cases hv : decide (d.1 ∈ f.2.1) with
      | false =>
        rw [hv] at an
        exact ⟨_, _, _, rfl, sm, an⟩
      | true =>
        rw [hv] at an yes
        refine ⟨_, rfl, _, rfl, ?_⟩
        cases hl : d.2.2 with
        | true =>
          rw [hl] at yes
          have := k H1' sm
          rw [yes rfl] at this
          exact this
        | false =>
          rw [hl] at an yes
          refine ⟨_, rfl, _, rfl, ?_⟩
          cases b with
          | true => exact ⟨_, _, _, rfl, sm, an⟩
          | false =>
            have := k H1' sm
            rw [yes rfl] at this
            exact this
    · rintro σ H3 ⟨o3, o4, o5, rfl, sm, hno⟩
      have hno : ((e.2.2.take us.length).any fun d => decide (d.1 ∈ f.2.1) && (d.2.2 || !b)) = false := hno
      rw [t4.length, List.take_length] at hno
      have := k H3 sm
      unfold mayB at this
      rw [hno] at this
      exact this
def spRefused (K : PySem.W.Frag) (CG CP CD CT : Addr) : Sp := fun vs H Q _ => ∃ (p : Addr) (es : List Ent) (ins : List Str) (x y : V) (ox oy : Option Str), vs = [.ref p, x, y] ∧ ProgAt K CG CP CD CT H p es ins ∧ GFine es ∧ NmQ K H x ox ∧ NmQ K H y oy ∧ (placeO (es.map (·.1)) ox = none ∨ placeO (es.map (·.1)) oy = none) ∧
  ∀ l H', Same H H' → H' l = some (.lst [if (placeO (es.map (·.1)) ox).isNone then x else y, .bl true]) → Q (.ref l) H'
theorem ok_refused (T : Tx P K mg a) : FnOk P w K mg base CX0 7 a.f__law_refused a.d__law_refused ["program", "one", "other"] (spRefused K a.C_Program a.C_Process a.C_Deed a.C_Term) := by
  have F1 : FnOk P w K mg base (L2.CX P w) 6 a.f_wakes a.d_wakes ["program", "one", "other"] (spWakes K a.C_Program a.C_Process a.C_Deed a.C_Term a.C_NoName) := ok_wakes T
  refine T._law_refused.fn.ok sc__law_refused (fun vs H Q E h => ?_) (fun cdv A outer s H vs Q E hr h => ?_)
  · obtain ⟨p, es, ins, x, y, ox, oy, rfl, _⟩ := h
    rfl
  · obtain ⟨p, es, ins, x, y, ox, oy, rfl, pa, gf, hx, hy, hno, k⟩ := h
    have nd := sc__law_refused.nd
    refine ⟨_, (pss_cons (ps_try_as (i := 3) (tb := fun W => tDrop (tCallS (spWakes K a.C_Program a.C_Process a.C_Deed a.C_Term a.C_NoName) (WE W) (tCons (tVar 0) (tCons (tVar 1) (tCons (tVar 2) tNil)))))
        (ts := fun e cls d => fun D σ H => cls = .ref a.C_NoName ∧ tRet (tLst (tCons (tXf e cls d a.C_NoName "who" (tVar 3)) (tCons (tCB (rIsB K a.C_NoName e) (tCons (tVar 3) (tCons (tC (.ty "KeyError")) tNil))) tNil))) D σ H) (Wout := fun _ _ _ _ => False) rfl rfl nd rfl rfl ⟨rfl, by decide, Or.inl T.e_NoName.gC⟩ takes0
        (fun W pn xe tk _ => pss_one (ps_expr (pe_callS F1 hr rfl T.wakes.mg T.wakes.fn.kp T.wakes.bd (fun σ => passAt tk σ) (pa_cons (pv 0) (pa_cons (pv 1) (pa_cons (pv 2) pa_nil))))))
        (fun e oe cls d pn hz hf => ?_)) (pss_one (ps_ret pe_non))), ?_⟩
    · constructor
      intro pins s1 σ H1 D I h1
      obtain ⟨hc, h1⟩ := h1
      refine PSs.run (t := tRet (tLst (tCons (tXf e cls d a.C_NoName "who" (tVar 3)) (tCons (tCB (rIsB K a.C_NoName e) (tCons (tVar 3) (tCons (tC (.ty "KeyError")) tNil))) tNil)))) ?_ pins s1 σ H1 D I h1
      exact pss_one (ps_ret (by exact (pe_lst (pa_cons (pe_xf T.e_NoName.xf T.e_NoName.noN hz hf (pv 3)) (pa_cons (pe_callB (call_isB hz hc) (by rfl) T.bi.isinstance boot_isi (pa_cons (pv 3) (pa_cons (gl_ty rfl T.b_KeyError boot_KeyError) pa_nil))) pa_nil)))))
    · refine ⟨_, rfl, _, rfl, _, rfl, p, es, ins, x, y, ox, oy, rfl, pa, gf, hx, hy, fun hz d H1 s1 nd1 => ?_, fun i e1 e2 d H1 s1 nd1 => ?_, fun i j e H1 e1 e2 _ _ => ?_⟩
      · have sm : Same H (upd H1 d (.xd [("who", x)])) := s1.trans (sNew nd1)
        rw [hz] at k
        refine ⟨true, T.te_NoName, fun _ a0 na => ?_, fun z => nomatch z⟩
        refine ⟨rfl, _, rfl, rfl, rfl, d, _, x, rfl, upd_same, rfl, ?_⟩
        refine ⟨_, rfl, "KeyError", rfl, T.kr_NoName, ?_⟩
        refine ⟨by show 2 ≤ sizeLine; decide, fun l hl => ?_⟩
        exact k l _ (sm.trans (sNew hl)) upd_same
      · have sm : Same H (upd H1 d (.xd [("who", y)])) := s1.trans (sNew nd1)
        rw [e1] at k
        refine ⟨true, T.te_NoName, fun _ a0 na => ?_, fun z => nomatch z⟩
        refine ⟨rfl, _, rfl, rfl, rfl, d, _, y, rfl, upd_same, rfl, ?_⟩
        refine ⟨_, rfl, "KeyError", rfl, T.kr_NoName, ?_⟩
        refine ⟨by show 2 ≤ sizeLine; decide, fun l hl => ?_⟩
        exact k l _ (sm.trans (sNew hl)) upd_same
      · rw [e1, e2] at hno
        rcases hno with h | h <;> cases h
end
end Z
set_option maxRecDepth 100000
set_option maxHeartbeats 4000000
set_option pp.maxSteps 500
namespace Z
open PySem PySem.Spec PyProof.Rows L2
theorem wk_may {es : List Ent} {e f : Ent} {i j : Nat} (nd : (es.map (·.1)).Nodup) (hi : es[i]? = some e) (hj : es[j]? = some f) : wkB es e i j = mayB e f (decide (e.1 = f.1)) := by
  have h1 := mem_hits (e := e) (b := true) hj
  have h2 := mem_hits (e := e) (b := false) hj
  unfold wkB
  rw [h1, h2]
  have same : decide ((j : Int) = (i : Int)) = decide (e.1 = f.1) := by
    rw [Bool.eq_iff_iff, decide_eq_true_iff, decide_eq_true_iff]
    constructor
    · intro h
      have : j = i := by omega
      subst this
      cases hi.symm.trans hj
      rfl
    · intro h
      obtain ⟨li, ei⟩ := List.getElem?_eq_some_iff.mp hi
      obtain ⟨lj, ej⟩ := List.getElem?_eq_some_iff.mp hj
      have : i = j := by
        refine (List.getElem_inj (xs := es.map (·.1)) (h₀ := by rw [List.length_map]; exact li) (h₁ := by rw [List.length_map]; exact lj) nd).mp ?_
        rw [List.getElem_map, List.getElem_map, ei, ej]
        exact h
      omega
  rw [same]
  unfold wakeB mayB
  rw [Bool.eq_iff_iff, Bool.or_eq_true, Bool.and_eq_true, List.any_eq_true, List.any_eq_true, List.any_eq_true]
  constructor
  · rintro (⟨d, hd, h⟩ | ⟨⟨d, hd, h⟩, h3⟩)
    · obtain ⟨h4, h5⟩ := Bool.and_eq_true_iff.mp h
      refine ⟨d, hd, ?_⟩
      rw [of_decide_eq_true h4, h5]
      rfl
    · obtain ⟨h4, h5⟩ := Bool.and_eq_true_iff.mp h
      refine ⟨d, hd, ?_⟩
      rw [h5, h3]
      simp
  · rintro ⟨d, hd, h⟩
    obtain ⟨h4, h5⟩ := Bool.and_eq_true_iff.mp h
    cases hl : d.2.2 with
    | true => exact .inl ⟨d, hd, by rw [hl, h4]; rfl⟩
    | false =>
      rw [hl, Bool.false_or] at h5
      exact .inr ⟨⟨d, hd, by rw [hl, h4]; rfl⟩, h5⟩
theorem fw_nodup {es : List Ent} {o : Option (List Str)} (h : fw (some es) o = none) : (es.map (·.1)).Nodup := by
  rw [fw_some] at h
  by_cases nd : (es.map (·.1)).Nodup
  · exact nd
  · rw [if_neg nd] at h
    cases h
theorem strOk_short {w : Str} (h : Short w) : PyData.strOk w = true := word_strOk h.word
theorem prs_succ {es : List Ent} {e f : Ent} {i j : Nat} (hj : es[j]? = some f) : prs es e i (j + 1) = if wkB es e i j then prs es e i j ++ [(e.1, f.1)] else prs es e i j := by
  unfold prs
  rw [selTo]
  split
  · rw [List.map_append]
    have : nmAt es (j : Int) = f.1 := by
      unfold nmAt
      rw [Int.toNat_natCast, hj]
      rfl
    rw [List.map_singleton, this]
  · rfl
theorem mem_prs {es : List Ent} {e : Ent} {i m : Nat} {ab : Str × Str} (hm : m ≤ es.length) (he : e ∈ es) (h : ab ∈ prs es e i m) : ab.1 ∈ es.map (·.1) ∧ ab.2 ∈ es.map (·.1) := by
  obtain ⟨z, hz, rfl⟩ := List.mem_map.mp h
  obtain ⟨j, hj, _, rfl⟩ := mem_selTo.mp hz
  refine ⟨List.mem_map.mpr ⟨e, he, rfl⟩, ?_⟩
  have hf : es[j]? = some es[j] := List.getElem?_eq_getElem (by omega)
  show nmAt es (j : Int) ∈ _
  unfold nmAt
  rw [Int.toNat_natCast, hf]
  exact List.mem_map.mpr ⟨es[j], List.getElem_mem _, rfl⟩
theorem mem_allP {es : List Ent} {ab : Str × Str} : ∀ {n : Nat}, ab ∈ allP es n → ab.1 ∈ es.map (·.1) ∧ ab.2 ∈ es.map (·.1)
  | 0, h => by
    unfold allP at h
    exact absurd h (List.not_mem_nil)
  | n + 1, h => by
    unfold allP at h
    split at h
    · rename_i e he
      rcases List.mem_append.mp h with h | h
      · exact mem_allP h
      · exact mem_prs (Nat.le_refl _) (List.mem_of_getElem? he) h
    · exact mem_allP h
theorem shaped_pairs {ps : List (Str × Str)} (h : ∀ ab ∈ ps, PyData.strOk ab.1 = true ∧ PyData.strOk ab.2 = true) : SeqAt.shaped (.list (ps.map pairD)) = true := by
  have h1 : ∀ l : List (Str × Str), (∀ ab ∈ l, PyData.strOk ab.1 = true ∧ PyData.strOk ab.2 = true) → PyData.canLayAll0 (l.map pairD) = true ∧ PyData.depthAll (l.map pairD) ≤ 2 := by
    intro l
    induction l with
    | nil => exact fun _ => ⟨rfl, by decide⟩
    | cons ab r ih =>
      intro h
      obtain ⟨a1, a2⟩ := ih fun x hx => h x (List.mem_cons_of_mem _ hx)
      obtain ⟨b1, b2⟩ := h ab List.mem_cons_self
      constructor
      · simp only [List.map_cons, pairD, PyData.canLayAll0, PyData.canLay0, b1, b2, a1, Bool.and_true]
      · simp only [List.map_cons, pairD, PyData.depthAll, PyData.depth] at a2 ⊢
        omega
  obtain ⟨c1, c2⟩ := h1 ps h
  unfold SeqAt.shaped
  rw [Bool.and_eq_true_iff]
  constructor
  · simp only [PyData.canLay0, c1]
  · refine decide_eq_true ?_
    simp only [PyData.depth]
    omega
end Z
set_option maxRecDepth 100000
set_option maxHeartbeats 4000000
set_option pp.maxSteps 500
namespace Z
open PySem PySem.Spec PyProof.Rows L2
theorem tt_five {tt : List Str} (h : tt ∈ ttMenu) : ∀ x ∈ tt, x ∈ (["p", "q", "r", "s", "t"] : List Str) := by
  simp only [ttMenu, List.mem_cons, List.not_mem_nil, or_false] at h
  rcases h with rfl | rfl
  · exact fun x h => h
  · intro x h
    simp only [List.mem_cons, List.not_mem_nil, or_false] at h ⊢
    rcases h with rfl | rfl | rfl | rfl | rfl <;> simp
theorem five_ok : ∀ x ∈ (["p", "q", "r", "s", "t"] : List Str), PyData.strOk x = true := by
  intro x h
  simp only [List.mem_cons, List.not_mem_nil, or_false] at h
  rcases h with rfl | rfl | rfl | rfl | rfl <;> decide +kernel
theorem five_not (y : Str) (hy : y ∈ (["", "turn", "zz"] : List Str)) : y ∉ (["p", "q", "r", "s", "t"] : List Str) := by
  simp only [List.mem_cons, List.not_mem_nil, or_false] at hy
  rcases hy with rfl | rfl | rfl <;> decide +kernel
structure Odd (K : PySem.W.Frag) (H : Hp) (ns : List Str) (v : V) : Prop where
  q : ∃ o d, NmQ K H v o ∧ placeO ns o = none ∧ Dp K H v d ∧ SeqAt.shaped (.list [d, .bool true]) = true
theorem Odd.same {K : PySem.W.Frag} {H H' : Hp} {ns : List Str} {v : V} (s : Same H H') (h : Odd K H ns v) : Odd K H' ns v := by
  obtain ⟨o, d, h1, h2, h3, h4⟩ := h.q
  exact ⟨o, d, h1.same s, h2, dp_same s h3, h4⟩
section
variable {P : Program} {w : World} {K : PySem.W.Frag} {mg : Str → Option Value} {base : Heap} {a : Ad}
def spLaw (K : PySem.W.Frag) : Sp := fun vs H Q _ => ∃ (s : Addr) (ns : List Int), vs = [.ref s] ∧ SqL K H s (ns.map V.int) ∧ (∀ z ∈ ns, Builtin.Int.intBits z ≤ 1048576) ∧ ∀ H', Q (.bl true) H'
theorem ok_law (T : Tx P K mg a) : FnG P w K mg base CX0 30 a.f_law a.d_law ["script"] (spLaw K) := by
  have Mp : FnOk P w K mg base CX0 1 a.f__law_pool a.d__law_pool ["script", "k"] (spPool K) := ok_pool T
  have Ml : FnOk P w K mg base CX0 7 a.f__law_plain a.d__law_plain ["pool", "many_processes", "many_deeds", "deep"] (spPlain K 2) := ok_plain T 2
  have Mg : FnOk P w K mg base CX0 17 a.f__law_made a.d__law_made ["plain"] (spGMade K a.C_Program a.C_Process a.C_Deed a.C_Term) := ok_gmade T
  have Mw : FnOk P w K mg base (L2.CX P w) 6 a.f_wakes a.d_wakes ["program", "one", "other"] (spWakes K a.C_Program a.C_Process a.C_Deed a.C_Term a.C_NoName) := ok_wakes T
  have My : FnOk P w K mg base CX0 1 a.f__law_may_wake a.d__law_may_wake ["near", "far", "is_same"] (spMay K) := ok_may T
  have Mk : FnOk P w K mg base CX0 6 a.f_wakings a.d_wakings ["program"] (spWakings K a.C_Program a.C_Process a.C_Deed a.C_Term) := ok_wakings T
  have Mr : FnOk P w K mg base CX0 7 a.f__law_refused a.d__law_refused ["program", "one", "other"] (spRefused K a.C_Program a.C_Process a.C_Deed a.C_Term) := ok_refused T
  refine okG T.law.fn sc_law (fun vs H Q E h => ?_) (fun cdv A outer s H vs Q E hr gu h => ?_)
  · obtain ⟨l, ns, rfl, _⟩ := h
    rfl
  · obtain ⟨sa, ns, rfl, hs, hb, k⟩ := h
    have nd := sc_law.nd
    have hr1 : Room 1 _ := hr.mono (by decide)
    have hr6 : Room 6 _ := hr.mono (by decide)
    have hr7 : Room 7 _ := hr.mono (by decide)
    have hr17 : Room 17 _ := hr.mono (by decide)
    apply Exists.intro
    apply And.intro
    · apply pss_cons
      · apply ps_for (passes_of rfl) rfl
        · exact (pi_range1 rfl T.bi.range (pa_cons (cb_max T.bi (pa_cons pe_int (pa_cons (cb_min T.bi (pa_cons (cb_len T.bi (pa_cons (pv 0) pa_nil)) (pa_cons pe_int pa_nil))) pa_nil))) pa_nil))
        · exact (pg_name (i := 1) nd rfl (Or.inl rfl))
        · apply pss_cons
          · exact (ps_set (i := 2) nd rfl (Or.inl rfl) (pe_cf T._law_pool Mp hr1 (pa_cons (pv 0) (pa_cons (pv 1) pa_nil))))
          apply pss_cons
          · exact (ps_set (i := 3) nd rfl (Or.inl rfl) (pe_cf T._law_plain Ml hr7 (pa_cons (pv 2) (pa_cons pe_int (pa_cons pe_int (pa_cons pe_int pa_nil))))))
          apply pss_cons
          · exact (ps_set (i := 4) nd rfl (Or.inl rfl) (pe_cf T._law_made Mg hr17 (pa_cons (pv 3) pa_nil)))
          apply pss_cons
          · exact (ps_set (i := 5) nd rfl (Or.inl rfl) (pe_lst pa_nil))
          apply pss_cons
          · apply ps_for (passes_of rfl) rfl
            · exact (pi_list (pe_dget hr.un1 (pv 3) pe_str (fun _ _ => rfl)))
            · exact (pg_name (i := 6) nd rfl (Or.inl rfl))
            · apply pss_one
              apply ps_for (passes_of rfl) rfl
              · exact (pi_list (pe_dget hr.un1 (pv 3) pe_str (fun _ _ => rfl)))
              · exact (pg_name (i := 7) nd rfl (Or.inl rfl))
              · apply pss_cons
                · exact (ps_set (i := 8) nd rfl (Or.inl rfl) (pe_call Mw hr6 rfl T.wakes.mg T.wakes.fn.kp T.wakes.bd .nil passL (pa_cons (pv 4) (pa_cons (pe_ix ix_A (pv 6) pe_int (fun _ _ => rfl)) (pa_cons (pe_ix ix_A (pv 7) pe_int (fun _ _ => rfl)) pa_nil)))))
                apply pss_cons
                · exact (ps_if (PW.pt (pw_or (pt_cmpR (op_neX hr) (pv 8) (pe_cf T._law_may_wake My hr1 (pa_cons (pv 6) (pa_cons (pv 7) (pa_cons (pe_cmpR (op_eqX hr) (pe_ix ix_A (pv 6) pe_int (fun _ _ => rfl)) (pe_ix ix_A (pv 7) pe_int (fun _ _ => rfl)) (nomark _)) pa_nil)))) (nomark _)) (pw_or1 (pt_not (pt_val (cb_isi T.bi (pa_cons (pv 8) (pa_cons (gl_ty rfl T.bi.bool PyProof.Rows.boot_bool) pa_nil)))))))) (pss_one (ps_ret pe_bl)) pss_nil)
                apply pss_one
                exact (ps_if (pt_val (pv 8)) (pss_one (ps_expr (pe_bm PySem.F.plainAttrs_list PySem.F.slot_list_append PySem.F.type_list_append mt_append (pv 5) (pa_cons (pe_tup (pa_cons (pe_ix ix_A (pv 6) pe_int (fun _ _ => rfl)) (pa_cons (pe_ix ix_A (pv 7) pe_int (fun _ _ => rfl)) pa_nil))) pa_nil)))) pss_nil)
          apply pss_cons
          · exact (ps_if (PW.pt (pw_or (pt_cmpR (op_neX hr) (pe_cf T.wakings Mk hr6 (pa_cons (pv 4) pa_nil)) (pv 5) (nomark _)) (pw_or1 (pt_not (pt_val (cb_isi T.bi (pa_cons (pe_cf T.wakings Mk hr6 (pa_cons (pv 4) pa_nil)) (pa_cons (gl_ty rfl T.bi.list PyProof.Rows.boot_list) pa_nil)))))))) (pss_one (ps_ret pe_bl)) pss_nil)
          apply pss_cons
          · exact (ps_set (i := 9) nd rfl (Or.inl rfl) (pe_ix ix_A (pe_ix ix_A (pe_dget hr.un1 (pv 3) pe_str (fun _ _ => rfl)) pe_int (fun _ _ => rfl)) pe_int (fun _ _ => rfl)))
          apply pss_one
          apply ps_for (passes_of rfl) rfl
          · exact (pi_list (pe_lst (pa_cons pe_non (pa_cons pe_str (pa_cons pe_str (pa_cons pe_int (pa_cons (pe_tup (pa_cons (pv 9) pa_nil)) (pa_cons pe_str pa_nil))))))))
          · exact (pg_name (i := 10) nd rfl (Or.inl rfl))
          · exact (pss_one (ps_if (PW.pt (pw_or (pt_cmpR (op_neX hr) (pe_cf T._law_refused Mr hr7 (pa_cons (pv 4) (pa_cons (pv 10) (pa_cons pe_non pa_nil)))) (pe_lst (pa_cons (pv 10) (pa_cons pe_bl pa_nil))) (nomark _)) (pw_or1 (pt_cmpR (op_neX hr) (pe_cf T._law_refused Mr hr7 (pa_cons (pv 4) (pa_cons (pv 9) (pa_cons (pv 10) pa_nil)))) (pe_lst (pa_cons (pv 10) (pa_cons pe_bl pa_nil))) (nomark _))))) (pss_one (ps_ret pe_bl)) pss_nil))
      exact pss_one (ps_ret pe_bl)
    refine ⟨_, rfl, lenL hs (min2 ?_)⟩
    refine max2 ?_
    have hm : ∀ n : Nat, (if (if (20 : Int) < ((n : Nat) : Int) then (20 : Int) else ((n : Nat) : Int)) > 1 then (if (20 : Int) < ((n : Nat) : Int) then (20 : Int) else ((n : Nat) : Int)) else 1) ≤ 20 ∧ (0 : Int) ≤ (if (if (20 : Int) < ((n : Nat) : Int) then (20 : Int) else ((n : Nat) : Int)) > 1 then (if (20 : Int) < ((n : Nat) : Int) then (20 : Int) else ((n : Nat) : Int)) else 1) := fun n => by
      split <;> (try split) <;> omega
    obtain ⟨m1, m2⟩ := hm (ns.map V.int).length
    refine ⟨_, rfl, by omega, by omega, ?_⟩
    refine for_it (walk_range (lo := 0)) (fun n σ H' => ∃ o1 o2 o3 o4 o5 o6 o7 o8 o9 o10 : Option V, σ = [some (.ref sa), o1, o2, o3, o4, o5, o6, o7, o8, o9, o10] ∧ Same H H') ⟨none, none, none, none, none, none, none, none, none, none, rfl, Same.refl _⟩ (fun _ _ _ _ _ => trivial) ?_ ?_
    rotate_left
    · rintro σ H1 ⟨o1, o2, o3, o4, o5, o6, o7, o8, o9, o10, rfl, sm⟩
      exact k H1
    rintro i x σ H1 H1' hi ⟨o1, o2, o3, o4, o5, o6, o7, o8, o9, o10, rfl, sm1⟩ ⟨rfl, rfl⟩
    have hi20 : i < 20 := by omega
    have sl := sl1k
    refine ⟨_, rfl, _, rfl, sa, ns, i, by show [V.ref sa, .int (0 + (i : Int))] = _; rw [Int.zero_add], SqL.same sm1 hs, hb, by omega, fun l H2 s2 nl P2 => ?_⟩
    have nlH : H l = none := sm1.non nl
    have sH2 : Same H H2 := sm1.trans s2
    refine ⟨_, rfl, l, 5, 3, rfl, P2, by decide, by decide, by decide, by decide, by decide, fun d F ip us es ins H3 b3 P3 nd3 nF nip hd hF hip en pf => ?_⟩
    obtain ⟨e1, e4, made, fine, hfw, iw, ind, i1, i2⟩ := pf.prog (by decide) (by decide) (by decide)
    have sH3 : Same H H3 := But.fresh nlH sH2 b3
    have le := en.length
    have ndn := fw_nodup hfw
    have gf : GFine es := ⟨by omega, fine⟩
    have five : ∀ x ∈ es.map (·.1), x ∈ (["p", "q", "r", "s", "t"] : List Str) := by
      obtain ⟨ws, j, dg, tt, h1, h2, h3, h4, h5, h6, h7, h8, h9, a1, a2, a3, a4⟩ := pf.ents
      intro x hx
      rw [a3] at hx
      exact tt_five h9 x (List.mem_of_mem_take hx)
    refine ⟨_, rfl, d, F, ip, us, es, ins, _, 5, 3, 2, rfl, hd, hF, hip, en, pf, by decide, by decide, by decide, fun g H4 s4 hG => ?_⟩
    have hd4 := s4 _ _ hd
    have hF4 := s4 _ _ hF
    have en4 := en.same s4
    have sH4 := sH3.trans s4
    clear b3 P3 hF hip hd en pf made nF nip nd3 P2 s2 sH2 sH3 s4 sm1 nl
    refine ⟨Nat.zero_le _, fun D nD => ?_⟩
    have sD := sNew (o := .lst []) nD
    have gD : (upd H4 D (.lst [])) D = some (.lst []) := upd_same
    generalize upd H4 D (.lst []) = H5 at sD gD ⊢
    refine ⟨_, rfl, d, .ref F, rfl, .inl ⟨_, .inr "processes", .inl (sD _ _ hd4), rfl, valPI1.symm⟩, F, rfl, ⟨_, .inl (.inl (sD _ _ hF4))⟩, ?_⟩
    have bnd : ∀ n, n ≤ es.length → (allP es n).length ≤ 25 := fun n hn => by
      have := allP_len es n
      have : n * es.length ≤ 5 * 5 := Nat.mul_le_mul (by omega) gf.1
      omega
    refine for_it (walk_list (xs := us)) (fun m σ H' => ∃ (o6 o7 o8 o9 o10 : Option V) (vs : List V), σ = [some (.ref sa), some (.int (0 + (i : Int))), some (.ref l), some (.ref d), some (.ref g), some (.ref D), o6, o7, o8, o9, o10] ∧ Same H4 H' ∧ H' D = some (.lst vs) ∧ Pairs H' vs (allP es m)) ⟨_, _, _, _, _, [], rfl, sD, gD, .nil⟩ (fun _ _ _ _ ⟨_, _, _, _, _, _, _, sm, _⟩ => .inl (.inl (sm _ _ hF4))) ?_ ?_
    · rintro m x σ Ha Ha' hm ⟨o6, o7, o8, o9, o10, vs, rfl, sm, hA, hP⟩ ⟨rfl, hx⟩
      obtain ⟨e, hE, et⟩ := en4.get hx
      have et0 := et
      obtain ⟨p1, wl1, dl1, us1, rfl, t1, _⟩ := et0
      have lm : m < us.length := hm
      have pm : placeO (es.map (·.1)) (some e.1) = some m := placeO_at ndn (by rw [List.getElem?_map, hE]; rfl)
      have b1 := bnd m (by omega)
      refine ⟨_, rfl, d, .ref F, rfl, .inl ⟨_, .inr "processes", .inl (sm _ _ hd4), rfl, valPI1.symm⟩, F, rfl, ⟨_, .inl (.inl (sm _ _ hF4))⟩, ?_⟩
      refine for_it (walk_list (xs := us)) (fun j σ H' => ∃ (o7 o8 o9 o10 : Option V) (ws : List V), σ = [some (.ref sa), some (.int (0 + (i : Int))), some (.ref l), some (.ref d), some (.ref g), some (.ref D), some (.ref p1), o7, o8, o9, o10] ∧ Same H4 H' ∧ H' D = some (.lst ws) ∧ Pairs H' ws (allP es m ++ prs es e m j)) ⟨_, _, _, _, vs, rfl, sm, hA, by show Pairs Ha' vs (allP es m ++ []); rw [List.append_nil]; exact hP⟩ (fun _ _ _ _ ⟨_, _, _, _, _, _, sB, _⟩ => .inl (.inl (sB _ _ hF4))) ?_ ?_
      · rintro j y σ Hb Hb' hj ⟨o7, o8, o9, o10, ws, rfl, sB, hB, hQ⟩ ⟨rfl, hy⟩
        obtain ⟨f, hFf, ft⟩ := en4.get hy
        have ft0 := ft
        obtain ⟨p2, wl2, dl2, us2, rfl, v1, _⟩ := ft0
        have pj : placeO (es.map (·.1)) (some f.1) = some j := placeO_at ndn (by rw [List.getElem?_map, hFf]; rfl)
        have tw := wk_may ndn hE hFf
        refine ⟨_, rfl, _, rfl, ixT (i := 0) (.inl (.inl (sB _ _ t1))) rfl ⟨_, rfl, ixT (i := 0) (.inl (.inl (sB _ _ v1))) rfl ?_⟩⟩
        refine ⟨g, es, ins, .str e.1, .str f.1, some e.1, some f.1, rfl, hG.same sB, gf, .str _, .str _, fun h => ?_, fun _ _ h => ?_, fun i' j' e' Hc h1 h2 h3 sC => ?_⟩
        · rw [pm] at h
          cases h
        · rw [pj] at h
          cases h
        cases pm.symm.trans h1
        cases pj.symm.trans h2
        cases hE.symm.trans h3
        have sBC := sB.trans sC
        refine ⟨_, rfl, _, rfl, _, rfl, _, rfl, ixT (i := 0) (.inl (.inl (sBC _ _ t1))) rfl ⟨_, rfl, ixT (i := 0) (.inl (.inl (sBC _ _ v1))) rfl (eqS ?_)⟩⟩
        refine ⟨.ref p1, .ref p2, e, f, _, _, rfl, et.same sBC, ft.same sBC, fun Hd sd => neB ?_⟩
        rw [tw, decide_eq_true rfl]
        refine ⟨_, rfl, ?_⟩
        refine ⟨_, rfl, isiTy (.base (.bl _)) k_bb ⟨_, rfl, ?_⟩⟩
        have sBD := sBC.trans sd
        have hD5 := (sC.trans sd) _ _ hB
        have hQ5 := hQ.tk (TK.of (sC.trans sd))
        have e0 := prs_succ (e := e) (i := m) hFf
        rw [tw] at e0
        refine ⟨_, rfl, _, rfl, ?_⟩
        cases hv : mayB e f (decide (e.1 = f.1)) with
        | false =>
          rw [hv, if_neg (by decide)] at e0
          exact ⟨_, _, _, _, ws, rfl, sBD, hD5, by rw [e0]; exact hQ5⟩
        | true =>
          rw [hv, if_pos rfl] at e0
          refine ⟨_, rfl, .inl ⟨rfl, _, .inl (.inl hD5)⟩, ?_⟩
          refine ⟨_, rfl, ixT (i := 0) (.inl (.inl (sBD _ _ t1))) rfl ⟨_, rfl, ixT (i := 0) (.inl (.inl (sBD _ _ v1))) rfl ?_⟩⟩
          refine ⟨by show 2 ≤ sizeLine; omega, fun t nt => ?_⟩
          have sT := sNew (o := .tup [.str e.1, .str f.1]) nt
          have hD6 := sT _ _ hD5
          have lq := hQ.length
          have lj : j < us.length := hj
          have l2 := prs_len es e m j
          refine ⟨D, _, _, rfl, rfl, hD6, by rw [lq, List.length_append]; omega, ?_⟩
          refine ⟨_, _, _, _, ws ++ [.ref t], rfl, sUpd nD (sBD.trans sT), upd_same, ?_⟩
          have hQ6 := (hQ5.tk (TK.of sT)).tk (TK.lst (o := .lst (ws ++ [.ref t])) hD6)
          rw [e0, ← List.append_assoc]
          exact hQ6.snoc ⟨t, rfl, (TK.lst (o := .lst (ws ++ [.ref t])) hD6).tup _ _ upd_same⟩
      · rintro σ Hb ⟨o7, o8, o9, o10, ws, rfl, sB, hB, hQ⟩
        have hQ : Pairs Hb ws (allP es m ++ prs es e m us.length) := hQ
        rw [le] at hQ
        exact ⟨_, _, _, _, _, ws, rfl, sB, hB, by rw [allP_at hE]; exact hQ⟩
    rintro σ H6 ⟨o6, o7, o8, o9, o10, vs, rfl, s6, hD6, hP6⟩
    have hP6 : Pairs H6 vs (allP es us.length) := hP6
    rw [le] at hP6
    have shp : SeqAt.shaped (.list ((allP es es.length).map pairD)) = true := shaped_pairs fun ab h => ⟨five_ok _ (five _ (mem_allP h).1), five_ok _ (five _ (mem_allP h).2)⟩
    refine ⟨_, rfl, g, es, ins, rfl, hG.same s6, gf, fun q ws H7 s7 nq hq hQ => ⟨_, rfl, neDp (d := .list ((allP es es.length).map pairD)) (.lst (.inl (.inl hq)) hQ.dp) (.lst (.inl (.inl (s7 _ _ hD6))) (hP6.tk (TK.of s7)).dp) shp ⟨_, rfl, ?_⟩⟩⟩
    refine ⟨_, rfl, g, es, ins, rfl, hG.same (s6.trans s7), gf, fun q2 ws2 H8 s8 nq2 hq2 _ => isiTy (.base (.lst hq2)) k_ll ⟨_, rfl, ?_⟩⟩
    have s48 := (s6.trans s7).trans s8
    have h0 : es[0]? = some es[0] := List.getElem?_eq_getElem (by omega)
    generalize es[0] = e at h0
    obtain ⟨x0, hx0, et⟩ := en4.get' h0
    obtain ⟨p0, wl0, dl0, us0, rfl, t0, _⟩ := et
    have p00 : placeO (es.map (·.1)) (some e.1) = some 0 := placeO_at ndn (by rw [List.getElem?_map, h0]; rfl)
    have ok0 : PyData.strOk e.1 = true := five_ok _ (five _ (List.mem_map.mpr ⟨e, List.mem_of_getElem? h0, rfl⟩))
    refine ⟨_, rfl, d, .ref F, rfl, .inl ⟨_, .inr "processes", .inl (s48 _ _ hd4), rfl, valPI1.symm⟩, ixL (i := 0) (.inl (.inl (s48 _ _ hF4))) hx0 (ixT (i := 0) (.inl (.inl (s48 _ _ t0))) rfl ?_)⟩
    refine ⟨_, rfl, by show 1 ≤ sizeLine; omega, fun t nt => ?_⟩
    have sT := sNew (o := .tup [.str e.1]) nt
    have gT : (upd H8 t (.tup [.str e.1])) t = some (.tup [.str e.1]) := upd_same
    generalize upd H8 t (.tup [.str e.1]) = H9 at sT gT ⊢
    refine ⟨by show 6 ≤ sizeLine; omega, fun q3 nq3 => ⟨q3, rfl, ⟨_, .inl (.inl upd_same)⟩, ?_⟩⟩
    have sq := sNew (o := .lst [V.non, .str "", .str "turn", .int 5, .ref t, .str "zz"]) nq3
    have gq : (upd H9 q3 (.lst [V.non, .str "", .str "turn", .int 5, .ref t, .str "zz"])) q3 = some (.lst [V.non, .str "", .str "turn", .int 5, .ref t, .str "zz"]) := upd_same
    have gt2 := sq _ _ gT
    generalize upd H9 q3 (.lst [V.non, .str "", .str "turn", .int 5, .ref t, .str "zz"]) = HA at sq gq gt2 ⊢
    have s4A := (s48.trans sT).trans sq
    have nos : ∀ y ∈ (["", "turn", "zz"] : List Str), placeO (es.map (·.1)) (some y) = none := fun y hy => by
      show (if y ∈ es.map (·.1) then some ((es.map (·.1)).idxOf y) else none) = none
      exact if_neg fun h => five_not y hy (five y h)
    have odds : ∀ v ∈ [V.non, .str "", .str "turn", .int 5, .ref t, .str "zz"], Odd K HA (es.map (·.1)) v := by
      refine all_cons ⟨none, .none, .oth (.base .non) k_ns, rfl, .non, by decide +kernel⟩ (all_cons ⟨some "", .str "", .str _, nos _ (by simp), .str _, by decide +kernel⟩ (all_cons ⟨some "turn", .str "turn", .str _, nos _ (by simp), .str _, by decide +kernel⟩ (all_cons ⟨none, .int 5, .oth (.base (.int 5)) k_is, rfl, .int 5, by decide +kernel⟩ (all_cons ⟨none, .tuple [.str e.1], .oth (.base (.tup gt2)) k_ts, rfl, .tup (.inl (.inl gt2)) (.cons (.str _) .nil), ?_⟩ (all_cons ⟨some "zz", .str "zz", .str _, nos _ (by simp), .str _, by decide +kernel⟩ all_nil)))))
      unfold SeqAt.shaped
      simp [PyData.canLay0, PyData.canLayAll0, PyData.depth, PyData.depthAll, ok0]
    refine for_it (walk_list (xs := [V.non, .str "", .str "turn", .int 5, .ref t, .str "zz"])) (fun m σ H' => ∃ (o6 o7 o8 o10 : Option V), σ = [some (.ref sa), some (.int (0 + (i : Int))), some (.ref l), some (.ref d), some (.ref g), some (.ref D), o6, o7, o8, some (.str e.1), o10] ∧ Same HA H') ⟨_, _, _, _, rfl, Same.refl _⟩ (fun _ _ _ _ ⟨_, _, _, _, _, sB⟩ => .inl (.inl (sB _ _ gq))) ?_ ?_
    · rintro m v σ Hb Hb' hm ⟨o6, o7, o8, o10, rfl, sB⟩ ⟨rfl, hv⟩
      obtain ⟨o, dv, n1, n2, n3, n4⟩ := (odds v (List.mem_of_getElem? hv)).q
      have s4B := s4A.trans sB
      refine ⟨_, rfl, _, rfl, g, es, ins, v, .non, o, none, rfl, hG.same s4B, gf, n1.same sB, .oth (.base .non) k_ns, .inl n2, fun lq Hc sC hl => ?_⟩
      rw [n2] at hl
      refine ⟨_, rfl, by show 2 ≤ sizeLine; omega, fun pd npd => ?_⟩
      have sP := sNew (o := .lst [v, .bl true]) npd
      have sBP := (sB.trans sC).trans sP
      refine neDp (d := .list [dv, .bool true]) (.lst (.inl (.inl (sP _ _ hl))) (.cons (dp_same sBP n3) (.cons (.bl _) .nil))) (.lst (.inl (.inl upd_same)) (.cons (dp_same sBP n3) (.cons (.bl _) .nil))) n4 ⟨_, rfl, ?_⟩
      generalize upd Hc pd (.lst [v, .bl true]) = Hd at sP sBP ⊢
      have s4D := s4A.trans sBP
      refine ⟨_, rfl, _, rfl, _, rfl, g, es, ins, .str e.1, v, some e.1, o, rfl, hG.same s4D, gf, .str _, n1.same sBP, .inr n2, fun lq2 He sE hl2 => ?_⟩
      rw [p00] at hl2
      refine ⟨_, rfl, by show 2 ≤ sizeLine; omega, fun pe npe => ?_⟩
      have sP2 := sNew (o := .lst [v, .bl true]) npe
      have sBP2 := (sBP.trans sE).trans sP2
      refine neDp (d := .list [dv, .bool true]) (.lst (.inl (.inl (sP2 _ _ hl2))) (.cons (dp_same sBP2 n3) (.cons (.bl _) .nil))) (.lst (.inl (.inl upd_same)) (.cons (dp_same sBP2 n3) (.cons (.bl _) .nil))) n4 ⟨_, rfl, ?_⟩
      exact ⟨_, _, _, _, rfl, sBP2⟩
    · rintro σ Hb ⟨o6, o7, o8, o10, rfl, sB⟩
      exact ⟨_, _, _, _, _, _, _, _, _, _, rfl, sH4.trans (s4A.trans sB)⟩
end
end Z
set_option maxRecDepth 100000
set_option maxHeartbeats 0
namespace Hq
open PySem PySem.W PyProof.Rows HeadRun
theorem split2 {σ α β : Type} {x : Option σ} {f : σ → α} {g : σ → β} {a : α} {b : β} (h₁ : x.map f = some a) (h₂ : x.map g = some b) : x.map (fun s => (f s, g s)) = some (a, b) := by
  cases x with
  | none => cases h₁
  | some s => cases h₁; cases h₂; rfl
theorem split3 {σ α β γ : Type} {x : Option σ} {f : σ → α} {g : σ → β} {k : σ → γ} {a : α} {b : β} {c : γ} (h₁ : x.map f = some a) (h₂ : x.map g = some b) (h₃ : x.map k = some c) :
    x.map (fun s => (f s, g s, k s)) = some (a, b, c) := split2 h₁ (split2 h₂ h₃)
theorem mention (_ : Hook) {r : OpenRow} (hs : r.wellSaid = true) (hw : r.toRowW.promised) (hc : r.wellSaid = true → r.toRowW.promised → r.Holds) : r.Holds := hc hs hw
end Hq
open PySem PySem.W PyProof.Rows
local macro_rules | `(tactic| o_head $H) => `(tactic| refine Hq.mention $H (by assumption) ?hw ?hc)
open_top hd for PySem.Challenge.rw_tiedsteps_k42_who_may_wake_whom
namespace Hq
open PySem PySem.W PyProof.Rows HeadRun
def drOf (s : Stmt) : DefRec := match s with | .FunctionDef n a b _ _ _ sc _ _ p => ⟨n, a, b, sc, p⟩ | _ => ⟨"", ⟨[], [], none, [], [], none, []⟩, [], default, ⟨0, 0, 0, 0⟩⟩
def sLaw : Stmt := PySem.Challenge.rw_tiedsteps_k42_who_may_wake_whom.prog.main.body.getD 77 (.Pass ⟨0, 0, 0, 0⟩)
def dLaw : DefRec := drOf sLaw
def vw : Program := { PySem.Challenge.rw_tiedsteps_k42_who_may_wake_whom.prog with main := { PySem.Challenge.rw_tiedsteps_k42_who_may_wake_whom.prog.main with body := [sLaw] } }
theorem hdef : defOf vw PySem.Challenge.rw_tiedsteps_k42_who_may_wake_whom.row.toRowW.name = some (dLaw, []) := by kernel_rfl
theorem hthe : PySem.Challenge.rw_tiedsteps_k42_who_may_wake_whom.row.toRowW.prog.theDef PySem.Challenge.rw_tiedsteps_k42_who_may_wake_whom.row.toRowW.name = some (dLaw.params, dLaw.body, dLaw.scope) := by kernel_rfl
theorem hkw : kwWritten? dLaw.params.kwonlyargs dLaw.params.kw_defaults = some [] := by kernel_rfl
theorem hdfl : dLaw.params.defaults = [] := by kernel_rfl
theorem hok : (chainsOk vw && opensWell PySem.Challenge.rw_tiedsteps_k42_who_may_wake_whom.row.toRowW.prog && (frees PySem.Challenge.rw_tiedsteps_k42_who_may_wake_whom.row.toRowW && PySem.Challenge.rw_tiedsteps_k42_who_may_wake_whom.row.toRowW.within.isEmpty)) = true := by decide +kernel
theorem hbare : PySem.Challenge.rw_tiedsteps_k42_who_may_wake_whom.row.toRowW.prog.bare := ⟨rfl, rfl, rfl, rfl, rfl, by decide +kernel⟩
abbrev ls : List Str := [("_wall" : Str), ("TiedError" : Str), ("NoTerm" : Str), ("NoDeed" : Str), ("NoProcess" : Str), ("NoProgram" : Str), ("NoName" : Str), ("LETTERS" : Str), ("DIGITS" : Str), ("MOST_LETTERS" : Str), ("is_whole" : Str), ("is_number" : Str), ("is_word" : Str), ("is_digit" : Str), ("are_unlike_words" : Str), ("ascending_words" : Str), ("ascending_numbers" : Str), ("MOST_DEPTH" : Str), ("MOST_CONSTANT" : Str), ("SIGNS" : Str), ("word_at" : Str), ("plan_at" : Str), ("depth_of" : Str), ("text_of" : Str), ("leaves_of" : Str), ("value_of" : Str), ("stands_in" : Str), ("plan_of" : Str), ("Term" : Str), ("MOST_WAITS" : Str), ("MOST_DEEDS" : Str), ("RESERVED" : Str), ("AT_ONCE" : Str), ("AT_THE_END" : Str), ("deed_parts" : Str), ("Deed" : Str), ("deeds_of" : Str), ("Process" : Str), ("MOST_PROCESSES" : Str), ("MOST_INPUTS" : Str), ("MOST_VARIABLES" : Str), ("MOST_CONSTANTS" : Str), ("MOST_AT_ONCE" : Str), ("are_processes" : Str), ("are_inputs" : Str), ("all_variables" : Str), ("all_constants" : Str), ("first_wrong" : Str), ("Program" : Str), ("waiters" : Str), ("woken_at_once" : Str), ("woken_late" : Str), ("woken_by" : Str), ("wakes" : Str), ("wakings" : Str), ("_law_pool" : Str), ("_law_take" : Str), ("_law_one" : Str), ("_law_turned" : Str), ("_law_words" : Str), ("_law_tree" : Str), ("_law_tree_text" : Str), ("_law_deed_text" : Str), ("_law_deeds_drawn" : Str), ("_law_plain" : Str), ("_law_less_at_once" : Str), ("_law_made_process" : Str), ("_law_made" : Str), ("_law_may_wake" : Str), ("_law_refused" : Str)]
def P0 : Params := { strHash := fun _ => 0, shareClass := fun _ => 0, mergeTok := fun t => t, idOf := fun _ => 0, idOfShared := fun _ _ => 0, followText := fun _ => false, idOfImm := fun _ => 0 }
abbrev Xt (s : Shared) : Bool := xlAt vw [] s && recOk (RowW.records PySem.Challenge.rw_tiedsteps_k42_who_may_wake_whom.row.toRowW) s
theorem run1 (w : World) (os : OsState) : (endF (stepQ (denQ tabQ) PySem.Challenge.rw_tiedsteps_k42_who_may_wake_whom.prog w) 40000 PySem.Challenge.rw_tiedsteps_k42_who_may_wake_whom.prog w os).map (fun s => looksF PySem.Challenge.rw_tiedsteps_k42_who_may_wake_whom.prog (boot_heap w.params) s.abs) = some true := by kernel_rfl
theorem run2 (w : World) (os : OsState) : (endF (stepQ (denQ tabQ) PySem.Challenge.rw_tiedsteps_k42_who_may_wake_whom.prog w) 40000 PySem.Challenge.rw_tiedsteps_k42_who_may_wake_whom.prog w os).map (fun s => seenQ vw ls (importedModules PySem.Challenge.rw_tiedsteps_k42_who_may_wake_whom.prog.main.body) Xt s.abs) = some (openGood vw ls) := by kernel_rfl
theorem run3 (w : World) (os : OsState) : (endF (stepQ (denQ tabQ) PySem.Challenge.rw_tiedsteps_k42_who_may_wake_whom.prog w) 40000 PySem.Challenge.rw_tiedsteps_k42_who_may_wake_whom.prog w os).map (fun s => ((hd.heap_39 P0).map (·.1)).map (getT s)) = some ((hd.heap_39 w.params).map fun x => some x.2) := by kernel_rfl
theorem adds (P : Params) : (hd.heap_39 P0).map (·.1) = (hd.heap_39 P).map (·.1) := by kernel_rfl
theorem left : LeftO PySem.Challenge.rw_tiedsteps_k42_who_may_wake_whom.prog vw ls Xt (Hook.obs (kHook hd.heap_39 ((hd.heap_39 P0).map (·.1)) adds)) (Hook.val (kHook hd.heap_39 ((hd.heap_39 P0).map (·.1)) adds)) 40700 true :=
  left_oneK (M := 40000) (by kernel_rfl) (by rfl) (fun s => by kernel_rfl) (by rfl) fun w os => split3 (run1 w os) (run2 w os) (run3 w os)
theorem leftR : LeftO PySem.Challenge.rw_tiedsteps_k42_who_may_wake_whom.row.toRowW.prog vw ls Xt (Hook.obs (kHook hd.heap_39 ((hd.heap_39 P0).map (·.1)) adds)) (Hook.val (kHook hd.heap_39 ((hd.heap_39 P0).map (·.1)) adds)) 40700 true := left
end Hq
open PySem PySem.W PyProof.Rows
set_option maxRecDepth 100000
set_option maxHeartbeats 0
theorem PySem.Challenge.cw_tiedsteps_k42_who_may_wake_whom_holds : PySem.Challenge.rw_tiedsteps_k42_who_may_wake_whom.Holds := by
  refine hd ?_
  intro said hw
  refine PySem.W.holds_open (r := PySem.Challenge.rw_tiedsteps_k42_who_may_wake_whom.row) (q := Hq.vw) (loose := Hq.ls) (Xt := Hq.Xt) (XP := XL Hq.vw []) (YP := Hook.says (kHook hd.heap_39 ((hd.heap_39 Hq.P0).map (·.1)) Hq.adds)) Hq.leftR (Hook.of (kHook hd.heap_39 ((hd.heap_39 Hq.P0).map (·.1)) Hq.adds)) (Hook.keeps (kHook hd.heap_39 ((hd.heap_39 Hq.P0).map (·.1)) Hq.adds)) (fun s e => xl_of s (Bool.and_eq_true_iff.mp e).1) XL.keeps Hq.hdef Hq.hthe Hq.hkw (fun s e => recFacts_of (Bool.and_eq_true_iff.mp e).2) (by rfl) said Hq.hok Hq.hbare hw ?_
  clear said hw
  k_fill
  refine Z.walkG (l := PySem.Challenge.rw_tiedsteps_k42_who_may_wake_whom) (n := 63) (k := 30) (x := "script") (CX := fun _ => L2.CX0) (sp := fun w => Z.spLaw (hd.heap_39 w.params)) rfl (by decide) Hq.hdfl ⟨rfl, by decide, by decide⟩ (fun w h Y => PySem.W.kIn_of Y) ?F ?G ?H
  case G => exact fun w H s ns hl hb hO hS => ⟨s, ns, rfl, hS, hb, fun _ => rfl⟩
  case H => exact fun _ _ _ _ _ z => z
  case F =>
    intro w mg fa h KX G hmg
    have T : ∃ a : Z.Ad, Z.Tx PySem.Challenge.rw_tiedsteps_k42_who_may_wake_whom.prog (hd.heap_39 w.params) mg a := ?T
    case T =>
      clear hmg
      refine' Z.tx_mk (P := PySem.Challenge.rw_tiedsteps_k42_who_may_wake_whom.prog) KX G ?h_g_TiedError ?h_g_NoTerm ?h_l_NoTerm ?h_r_NoTerm ?h_s_NoTerm ?h_n_NoTerm ?h_i_NoTerm ?h_t_NoTerm ?h_k_NoTerm ?h_x_NoTerm ?h_v_NoTerm ?h_y_NoTerm ?h_xf_NoTerm ?h_fn_NoTerm ?h_cd_NoTerm ?h_lc_NoTerm ?h_v2_NoTerm ?h_fi_NoTerm ?h_ln_NoTerm ?h_ce_NoTerm ?h_se_NoTerm ?h_up_NoTerm ?h_te_NoTerm ?h_kb_NoTerm_TiedError ?h_g_NoDeed ?h_l_NoDeed ?h_r_NoDeed ?h_s_NoDeed ?h_n_NoDeed ?h_i_NoDeed ?h_t_NoDeed ?h_k_NoDeed ?h_x_NoDeed ?h_v_NoDeed ?h_y_NoDeed ?h_xf_NoDeed ?h_fn_NoDeed ?h_cd_NoDeed ?h_lc_NoDeed ?h_v2_NoDeed ?h_fi_NoDeed ?h_ln_NoDeed ?h_ce_NoDeed ?h_se_NoDeed ?h_up_NoDeed ?h_te_NoDeed ?h_kb_NoDeed_TiedError ?h_g_NoProcess ?h_l_NoProcess ?h_r_NoProcess ?h_s_NoProcess ?h_n_NoProcess ?h_i_NoProcess ?h_t_NoProcess ?h_k_NoProcess ?h_x_NoProcess ?h_v_NoProcess ?h_y_NoProcess ?h_xf_NoProcess ?h_fn_NoProcess ?h_cd_NoProcess ?h_lc_NoProcess ?h_v2_NoProcess ?h_fi_NoProcess ?h_ln_NoProcess ?h_ce_NoProcess ?h_se_NoProcess ?h_up_NoProcess ?h_te_NoProcess ?h_kb_NoProcess_TiedError ?h_g_NoProgram ?h_l_NoProgram ?h_r_NoProgram ?h_s_NoProgram ?h_n_NoProgram ?h_i_NoProgram ?h_t_NoProgram ?h_k_NoProgram ?h_x_NoProgram ?h_v_NoProgram ?h_y_NoProgram ?h_xf_NoProgram ?h_fn_NoProgram ?h_cd_NoProgram ?h_lc_NoProgram ?h_v2_NoProgram ?h_fi_NoProgram ?h_ln_NoProgram ?h_ce_NoProgram ?h_se_NoProgram ?h_up_NoProgram ?h_te_NoProgram ?h_kb_NoProgram_TiedError ?h_g_NoName ?h_l_NoName ?h_s_NoName ?h_n_NoName ?h_i_NoName ?h_t_NoName ?h_k_NoName ?h_x_NoName ?h_v_NoName ?h_y_NoName ?h_xf_NoName ?h_fn_NoName ?h_cd_NoName ?h_lc_NoName ?h_v2_NoName ?h_fi_NoName ?h_ln_NoName ?h_ce_NoName ?h_se_NoName ?h_up_NoName ?h_te_NoName ?h_kr_NoName ?h_b_KeyError ?h_v_LETTERS ?h_v_DIGITS ?h_v_MOST_LETTERS ?h_a_is_whole ?h_l_is_whole ?h_c_is_whole ?h_k_is_whole ?h_a_is_number ?h_l_is_number ?h_c_is_number ?h_k_is_number ?h_a_is_word ?h_l_is_word ?h_c_is_word ?h_k_is_word ?h_a_is_digit ?h_l_is_digit ?h_c_is_digit ?h_k_is_digit ?h_a_are_unlike_words ?h_l_are_unlike_words ?h_c_are_unlike_words ?h_k_are_unlike_words ?h_a_ascending_words ?h_l_ascending_words ?h_c_ascending_words ?h_k_ascending_words ?h_a_ascending_numbers ?h_l_ascending_numbers ?h_c_ascending_numbers ?h_k_ascending_numbers ?h_v_MOST_DEPTH ?h_v_MOST_CONSTANT ?h_v_SIGNS ?h_w_SIGNS ?h_a_word_at ?h_l_word_at ?h_c_word_at ?h_k_word_at ?h_a_plan_at ?h_l_plan_at ?h_c_plan_at ?h_k_plan_at ?h_a_text_of ?h_l_text_of ?h_c_text_of ?h_k_text_of ?h_a_leaves_of ?h_l_leaves_of ?h_c_leaves_of ?h_k_leaves_of ?h_a_stands_in ?h_l_stands_in ?h_c_stands_in ?h_k_stands_in ?h_a_plan_of ?h_l_plan_of ?h_c_plan_of ?h_k_plan_of ?h_g_Term ?h_pg_Term ?h_hd_Term ?h_po_Term ?h_sa_Term ?h_kp_Term ?h_ty_Term ?h_mo_Term ?h_kit_Term_NoneType ?h_kit_Term_bool ?h_kit_Term_int ?h_kit_Term_str ?h_kit_Term_list ?h_kit_Term_tuple ?h_kit_Term_dict ?h_kik_Term_list ?h_kik_Term_tuple ?h_kik_Term_str ?h_kit_Term ?h_l_Term___init__ ?h_c_Term___init__ ?h_k_Term___init__ ?h_a_Term___init__ ?h_i_Term___init__ ?h_mk_Term ?h_l_Term_choice ?h_c_Term_choice ?h_k_Term_choice ?h_r1_Term_choice ?h_r2_Term_choice ?h_r3_Term_choice ?h_r4_Term_choice ?h_l_Term___str__ ?h_c_Term___str__ ?h_k_Term___str__ ?h_a_Term___str__ ?h_i_Term___str__ ?h_fm_Term ?h_l_Term_variables ?h_c_Term_variables ?h_k_Term_variables ?h_a_Term_variables ?h_i_Term_variables ?h_l_Term_constants ?h_c_Term_constants ?h_k_Term_constants ?h_a_Term_constants ?h_i_Term_constants ?h_l_Term_parts ?h_c_Term_parts ?h_k_Term_parts ?h_a_Term_parts ?h_i_Term_parts ?h_l_Term___eq__ ?h_c_Term___eq__ ?h_k_Term___eq__ ?h_a_Term___eq__ ?h_i_Term___eq__ ?h_ne_Term ?h_nf_Term ?h_nx_Term_int ?h_nx_Term_tuple ?h_nx_Term_NoneType ?h_nx_Term_bool ?h_nx_Term_list ?h_nx_Term_dict ?h_l_Term_within ?h_c_Term_within ?h_k_Term_within ?h_a_Term_within ?h_i_Term_within ?h_no_Term_tree ?h_v_MOST_WAITS ?h_v_MOST_DEEDS ?h_v_RESERVED ?h_v_AT_ONCE ?h_v_AT_THE_END ?h_a_deed_parts ?h_l_deed_parts ?h_c_deed_parts ?h_k_deed_parts ?h_g_Deed ?h_pg_Deed ?h_hd_Deed ?h_po_Deed ?h_sa_Deed ?h_kp_Deed ?h_ty_Deed ?h_mo_Deed ?h_kit_Deed_NoneType ?h_kit_Deed_bool ?h_kit_Deed_int ?h_kit_Deed_str ?h_kit_Deed_list ?h_kit_Deed_tuple ?h_kit_Deed_dict ?h_kik_Deed_list ?h_kik_Deed_tuple ?h_kik_Deed_str ?h_kit_Deed ?h_l_Deed___init__ ?h_c_Deed___init__ ?h_k_Deed___init__ ?h_kw_Deed___init___late ?h_a_Deed___init__ ?h_i_Deed___init__ ?h_mk_Deed ?h_l_Deed_of ?h_c_Deed_of ?h_k_Deed_of ?h_r1_Deed_of ?h_r2_Deed_of ?h_r3_Deed_of ?h_r4_Deed_of ?h_l_Deed_variable ?h_c_Deed_variable ?h_k_Deed_variable ?h_q1_Deed_variable ?h_q2_Deed_variable ?h_q3_Deed_variable ?h_q4_Deed_variable ?h_l_Deed_term ?h_c_Deed_term ?h_k_Deed_term ?h_q1_Deed_term ?h_q2_Deed_term ?h_q3_Deed_term ?h_q4_Deed_term ?h_l_Deed_late ?h_c_Deed_late ?h_k_Deed_late ?h_q1_Deed_late ?h_q2_Deed_late ?h_q3_Deed_late ?h_q4_Deed_late ?h_l_Deed___str__ ?h_c_Deed___str__ ?h_k_Deed___str__ ?h_a_Deed___str__ ?h_i_Deed___str__ ?h_fm_Deed ?h_l_Deed___eq__ ?h_c_Deed___eq__ ?h_k_Deed___eq__ ?h_a_Deed___eq__ ?h_i_Deed___eq__ ?h_ne_Deed ?h_nf_Deed ?h_nx_Deed_int ?h_nx_Deed_tuple ?h_nx_Deed_NoneType ?h_nx_Deed_bool ?h_nx_Deed_list ?h_nx_Deed_dict ?h_no_Deed_is_late ?h_no_Deed_source ?h_no_Deed_target ?h_a_deeds_of ?h_l_deeds_of ?h_c_deeds_of ?h_k_deeds_of ?h_g_Process ?h_pg_Process ?h_hd_Process ?h_po_Process ?h_sa_Process ?h_kp_Process ?h_ty_Process ?h_mo_Process ?h_kit_Process_NoneType ?h_kit_Process_bool ?h_kit_Process_int ?h_kit_Process_str ?h_kit_Process_list ?h_kit_Process_tuple ?h_kit_Process_dict ?h_kik_Process_list ?h_kik_Process_tuple ?h_kik_Process_str ?h_kit_Process ?h_l_Process___init__ ?h_c_Process___init__ ?h_k_Process___init__ ?h_a_Process___init__ ?h_i_Process___init__ ?h_mk_Process ?h_l_Process_name ?h_c_Process_name ?h_k_Process_name ?h_q1_Process_name ?h_q2_Process_name ?h_q3_Process_name ?h_q4_Process_name ?h_l_Process_reads ?h_c_Process_reads ?h_k_Process_reads ?h_a_Process_reads ?h_i_Process_reads ?h_l_Process_writes ?h_c_Process_writes ?h_k_Process_writes ?h_a_Process_writes ?h_i_Process_writes ?h_l_Process_written ?h_c_Process_written ?h_k_Process_written ?h_a_Process_written ?h_i_Process_written ?h_l_Process_constants ?h_c_Process_constants ?h_k_Process_constants ?h_a_Process_constants ?h_i_Process_constants ?h_l_Process_variables ?h_c_Process_variables ?h_k_Process_variables ?h_a_Process_variables ?h_i_Process_variables ?h_l_Process_at_once ?h_c_Process_at_once ?h_k_Process_at_once ?h_a_Process_at_once ?h_i_Process_at_once ?h_no_Process_done ?h_no_Process_title ?h_no_Process_waited ?h_v_MOST_PROCESSES ?h_v_MOST_INPUTS ?h_v_MOST_VARIABLES ?h_v_MOST_CONSTANTS ?h_v_MOST_AT_ONCE ?h_a_are_processes ?h_l_are_processes ?h_c_are_processes ?h_k_are_processes ?h_a_are_inputs ?h_l_are_inputs ?h_c_are_inputs ?h_k_are_inputs ?h_a_all_variables ?h_l_all_variables ?h_c_all_variables ?h_k_all_variables ?h_a_all_constants ?h_l_all_constants ?h_c_all_constants ?h_k_all_constants ?h_a_first_wrong ?h_l_first_wrong ?h_c_first_wrong ?h_k_first_wrong ?h_g_Program ?h_pg_Program ?h_hd_Program ?h_po_Program ?h_sa_Program ?h_kp_Program ?h_ty_Program ?h_mo_Program ?h_kit_Program_NoneType ?h_kit_Program_bool ?h_kit_Program_int ?h_kit_Program_str ?h_kit_Program_list ?h_kit_Program_tuple ?h_kit_Program_dict ?h_kik_Program_list ?h_kik_Program_tuple ?h_kik_Program_str ?h_kit_Program ?h_l_Program___init__ ?h_c_Program___init__ ?h_k_Program___init__ ?h_a_Program___init__ ?h_i_Program___init__ ?h_mk_Program ?h_l_Program_names ?h_c_Program_names ?h_k_Program_names ?h_a_Program_names ?h_i_Program_names ?h_l_Program_place_of ?h_c_Program_place_of ?h_k_Program_place_of ?h_a_Program_place_of ?h_i_Program_place_of ?h_l_Program___len__ ?h_c_Program___len__ ?h_k_Program___len__ ?h_a_Program___len__ ?h_i_Program___len__ ?h_no_Program_given ?h_no_Program_line ?h_no_Program_numbers ?h_no_Program_titles ?h_no_Program_words ?h_a_waiters ?h_l_waiters ?h_c_waiters ?h_k_waiters ?h_a_woken_at_once ?h_l_woken_at_once ?h_c_woken_at_once ?h_k_woken_at_once ?h_a_woken_late ?h_l_woken_late ?h_c_woken_late ?h_k_woken_late ?h_a_woken_by ?h_l_woken_by ?h_c_woken_by ?h_k_woken_by ?h_a_wakes ?h_l_wakes ?h_c_wakes ?h_k_wakes ?h_a_wakings ?h_l_wakings ?h_c_wakings ?h_k_wakings ?h_a__law_pool ?h_l__law_pool ?h_c__law_pool ?h_k__law_pool ?h_a__law_take ?h_l__law_take ?h_c__law_take ?h_k__law_take ?h_a__law_one ?h_l__law_one ?h_c__law_one ?h_k__law_one ?h_a__law_turned ?h_l__law_turned ?h_c__law_turned ?h_k__law_turned ?h_a__law_words ?h_l__law_words ?h_c__law_words ?h_k__law_words ?h_a__law_tree ?h_l__law_tree ?h_c__law_tree ?h_k__law_tree ?h_a__law_tree_text ?h_l__law_tree_text ?h_c__law_tree_text ?h_k__law_tree_text ?h_a__law_deed_text ?h_l__law_deed_text ?h_c__law_deed_text ?h_k__law_deed_text ?h_a__law_deeds_drawn ?h_l__law_deeds_drawn ?h_c__law_deeds_drawn ?h_k__law_deeds_drawn ?h_a__law_plain ?h_l__law_plain ?h_c__law_plain ?h_k__law_plain ?h_a__law_less_at_once ?h_l__law_less_at_once ?h_c__law_less_at_once ?h_k__law_less_at_once ?h_a__law_made_process ?h_l__law_made_process ?h_c__law_made_process ?h_k__law_made_process ?h_a__law_made ?h_l__law_made ?h_c__law_made ?h_k__law_made ?h_a__law_may_wake ?h_l__law_may_wake ?h_c__law_may_wake ?h_k__law_may_wake ?h_a__law_refused ?h_l__law_refused ?h_c__law_refused ?h_k__law_refused ?h_a_law ?h_l_law ?h_c_law ?h_k_law ?h_b_len ?h_b_max ?h_b_min ?h_b_int ?h_b_str ?h_b_tuple ?h_b_list ?h_b_bool ?h_b_dict ?h_b_set ?h_b_isinstance ?h_b_sorted ?h_b_repr ?h_b_range ?h_b_enumerate ?h_b_zip ?h_b_sum ?h_b_all ?h_b_any ?h_sup ?h_topS ?h_opq ?h_tn ?h_tt
      (case h_g_TiedError => first | k_is | rfl | decide)
      (case h_g_NoTerm => first | k_is | rfl | decide)
      (case h_g_NoDeed => first | k_is | rfl | decide)
      (case h_g_NoProcess => first | k_is | rfl | decide)
      (case h_g_NoProgram => first | k_is | rfl | decide)
      (case h_g_NoName => first | k_is | rfl | decide)
      (case h_g_Term => first | k_is | rfl | decide)
      (case h_g_Deed => first | k_is | rfl | decide)
      (case h_g_Process => first | k_is | rfl | decide)
      (case h_g_Program => first | k_is | rfl | decide)
      (case h_r3_Term_choice => first | k_is | rfl | decide)
      (case h_r3_Deed_of => first | k_is | rfl | decide)
      (case h_r4_Term_choice => first | k_is | rfl | decide)
      (case h_r4_Deed_of => first | k_is | rfl | decide)
      (case h_q1_Deed_variable => first | k_is | rfl | decide)
      (case h_q1_Deed_term => first | k_is | rfl | decide)
      (case h_q1_Deed_late => first | k_is | rfl | decide)
      (case h_q1_Process_name => first | k_is | rfl | decide)
      (case h_q4_Deed_variable => first | k_is | rfl | decide)
      (case h_q4_Deed_term => first | k_is | rfl | decide)
      (case h_q4_Deed_late => first | k_is | rfl | decide)
      (case h_q4_Process_name => first | k_is | rfl | decide)
      (case h_a_is_whole => first | k_is | rfl | decide)
      (case h_a_is_number => first | k_is | rfl | decide)
      (case h_a_is_word => first | k_is | rfl | decide)
      (case h_a_is_digit => first | k_is | rfl | decide)
      (case h_a_are_unlike_words => first | k_is | rfl | decide)
      (case h_a_ascending_words => first | k_is | rfl | decide)
      (case h_a_ascending_numbers => first | k_is | rfl | decide)
      (case h_a_word_at => first | k_is | rfl | decide)
      (case h_a_plan_at => first | k_is | rfl | decide)
      (case h_a_text_of => first | k_is | rfl | decide)
      (case h_a_leaves_of => first | k_is | rfl | decide)
      (case h_a_stands_in => first | k_is | rfl | decide)
      (case h_a_plan_of => first | k_is | rfl | decide)
      (case h_a_Term___init__ => first | k_is | rfl | decide)
      (case h_a_Term___str__ => first | k_is | rfl | decide)
      (case h_a_Term_variables => first | k_is | rfl | decide)
      (case h_a_Term_constants => first | k_is | rfl | decide)
      (case h_a_Term_parts => first | k_is | rfl | decide)
      (case h_a_Term___eq__ => first | k_is | rfl | decide)
      (case h_a_Term_within => first | k_is | rfl | decide)
      (case h_a_deed_parts => first | k_is | rfl | decide)
      (case h_a_Deed___init__ => first | k_is | rfl | decide)
      (case h_a_Deed___str__ => first | k_is | rfl | decide)
      (case h_a_Deed___eq__ => first | k_is | rfl | decide)
      (case h_a_deeds_of => first | k_is | rfl | decide)
      (case h_a_Process___init__ => first | k_is | rfl | decide)
      (case h_a_Process_reads => first | k_is | rfl | decide)
      (case h_a_Process_writes => first | k_is | rfl | decide)
      (case h_a_Process_written => first | k_is | rfl | decide)
      (case h_a_Process_constants => first | k_is | rfl | decide)
      (case h_a_Process_variables => first | k_is | rfl | decide)
      (case h_a_Process_at_once => first | k_is | rfl | decide)
      (case h_a_are_processes => first | k_is | rfl | decide)
      (case h_a_are_inputs => first | k_is | rfl | decide)
      (case h_a_all_variables => first | k_is | rfl | decide)
      (case h_a_all_constants => first | k_is | rfl | decide)
      (case h_a_first_wrong => first | k_is | rfl | decide)
      (case h_a_Program___init__ => first | k_is | rfl | decide)
      (case h_a_Program_names => first | k_is | rfl | decide)
      (case h_a_Program_place_of => first | k_is | rfl | decide)
      (case h_a_Program___len__ => first | k_is | rfl | decide)
      (case h_a_waiters => first | k_is | rfl | decide)
      (case h_a_woken_at_once => first | k_is | rfl | decide)
      (case h_a_woken_late => first | k_is | rfl | decide)
      (case h_a_woken_by => first | k_is | rfl | decide)
      (case h_a_wakes => first | k_is | rfl | decide)
      (case h_a_wakings => first | k_is | rfl | decide)
      (case h_a__law_pool => first | k_is | rfl | decide)
      (case h_a__law_take => first | k_is | rfl | decide)
      (case h_a__law_one => first | k_is | rfl | decide)
      (case h_a__law_turned => first | k_is | rfl | decide)
      (case h_a__law_words => first | k_is | rfl | decide)
      (case h_a__law_tree => first | k_is | rfl | decide)
      (case h_a__law_tree_text => first | k_is | rfl | decide)
      (case h_a__law_deed_text => first | k_is | rfl | decide)
      (case h_a__law_deeds_drawn => first | k_is | rfl | decide)
      (case h_a__law_plain => first | k_is | rfl | decide)
      (case h_a__law_less_at_once => first | k_is | rfl | decide)
      (case h_a__law_made_process => first | k_is | rfl | decide)
      (case h_a__law_made => first | k_is | rfl | decide)
      (case h_a__law_may_wake => first | k_is | rfl | decide)
      (case h_a__law_refused => first | k_is | rfl | decide)
      (case h_a_law => first | k_is | rfl | decide)
      (case h_v_NoTerm => first | k_is | rfl | decide)
      (case h_v_NoDeed => first | k_is | rfl | decide)
      (case h_v_NoProcess => first | k_is | rfl | decide)
      (case h_v_NoProgram => first | k_is | rfl | decide)
      (case h_v_NoName => first | k_is | rfl | decide)
      (case h_v_LETTERS => first | k_is | rfl | decide)
      (case h_v_DIGITS => first | k_is | rfl | decide)
      (case h_v_MOST_LETTERS => first | k_is | rfl | decide)
      (case h_v_MOST_DEPTH => first | k_is | rfl | decide)
      (case h_v_MOST_CONSTANT => first | k_is | rfl | decide)
      (case h_v_SIGNS => first | k_is | rfl | decide)
      (case h_v_MOST_WAITS => first | k_is | rfl | decide)
      (case h_v_MOST_DEEDS => first | k_is | rfl | decide)
      (case h_v_RESERVED => first | k_is | rfl | decide)
      (case h_v_AT_ONCE => first | k_is | rfl | decide)
      (case h_v_AT_THE_END => first | k_is | rfl | decide)
      (case h_v_MOST_PROCESSES => first | k_is | rfl | decide)
      (case h_v_MOST_INPUTS => first | k_is | rfl | decide)
      (case h_v_MOST_VARIABLES => first | k_is | rfl | decide)
      (case h_v_MOST_CONSTANTS => first | k_is | rfl | decide)
      (case h_v_MOST_AT_ONCE => first | k_is | rfl | decide)
      (case h_w_SIGNS => first | k_is | rfl | decide)
      (case h_i_NoTerm => first | k_is | rfl | decide)
      (case h_i_NoDeed => first | k_is | rfl | decide)
      (case h_i_NoProcess => first | k_is | rfl | decide)
      (case h_i_NoProgram => first | k_is | rfl | decide)
      (case h_i_NoName => first | k_is | rfl | decide)
      (case h_i_Term___init__ => first | k_is | rfl | decide)
      (case h_i_Term___str__ => first | k_is | rfl | decide)
      (case h_i_Term_variables => first | k_is | rfl | decide)
      (case h_i_Term_constants => first | k_is | rfl | decide)
      (case h_i_Term_parts => first | k_is | rfl | decide)
      (case h_i_Term___eq__ => first | k_is | rfl | decide)
      (case h_i_Term_within => first | k_is | rfl | decide)
      (case h_i_Deed___init__ => first | k_is | rfl | decide)
      (case h_i_Deed___str__ => first | k_is | rfl | decide)
      (case h_i_Deed___eq__ => first | k_is | rfl | decide)
      (case h_i_Process___init__ => first | k_is | rfl | decide)
      (case h_i_Process_reads => first | k_is | rfl | decide)
      (case h_i_Process_writes => first | k_is | rfl | decide)
      (case h_i_Process_written => first | k_is | rfl | decide)
      (case h_i_Process_constants => first | k_is | rfl | decide)
      (case h_i_Process_variables => first | k_is | rfl | decide)
      (case h_i_Process_at_once => first | k_is | rfl | decide)
      (case h_i_Program___init__ => first | k_is | rfl | decide)
      (case h_i_Program_names => first | k_is | rfl | decide)
      (case h_i_Program_place_of => first | k_is | rfl | decide)
      (case h_i_Program___len__ => first | k_is | rfl | decide)
      (case h_fn_NoTerm => first | k_is | rfl | decide)
      (case h_fn_NoDeed => first | k_is | rfl | decide)
      (case h_fn_NoProcess => first | k_is | rfl | decide)
      (case h_fn_NoProgram => first | k_is | rfl | decide)
      (case h_fn_NoName => first | k_is | rfl | decide)
      (case h_l_NoTerm => first | k_is | rfl | decide)
      (case h_l_NoDeed => first | k_is | rfl | decide)
      (case h_l_NoProcess => first | k_is | rfl | decide)
      (case h_l_NoProgram => first | k_is | rfl | decide)
      (case h_l_NoName => first | k_is | rfl | decide)
      (case h_l_is_whole => first | k_is | rfl | decide)
      (case h_l_is_number => first | k_is | rfl | decide)
      (case h_l_is_word => first | k_is | rfl | decide)
      (case h_l_is_digit => first | k_is | rfl | decide)
      (case h_l_are_unlike_words => first | k_is | rfl | decide)
      (case h_l_ascending_words => first | k_is | rfl | decide)
      (case h_l_ascending_numbers => first | k_is | rfl | decide)
      (case h_l_word_at => first | k_is | rfl | decide)
      (case h_l_plan_at => first | k_is | rfl | decide)
      (case h_l_text_of => first | k_is | rfl | decide)
      (case h_l_leaves_of => first | k_is | rfl | decide)
      (case h_l_stands_in => first | k_is | rfl | decide)
      (case h_l_plan_of => first | k_is | rfl | decide)
      (case h_l_Term___init__ => first | k_is | rfl | decide)
      (case h_l_Term_choice => first | k_is | rfl | decide)
      (case h_l_Term___str__ => first | k_is | rfl | decide)
      (case h_l_Term_variables => first | k_is | rfl | decide)
      (case h_l_Term_constants => first | k_is | rfl | decide)
      (case h_l_Term_parts => first | k_is | rfl | decide)
      (case h_l_Term___eq__ => first | k_is | rfl | decide)
      (case h_l_Term_within => first | k_is | rfl | decide)
      (case h_l_deed_parts => first | k_is | rfl | decide)
      (case h_l_Deed___init__ => first | k_is | rfl | decide)
      (case h_l_Deed_of => first | k_is | rfl | decide)
      (case h_l_Deed_variable => first | k_is | rfl | decide)
      (case h_l_Deed_term => first | k_is | rfl | decide)
      (case h_l_Deed_late => first | k_is | rfl | decide)
      (case h_l_Deed___str__ => first | k_is | rfl | decide)
      (case h_l_Deed___eq__ => first | k_is | rfl | decide)
      (case h_l_deeds_of => first | k_is | rfl | decide)
      (case h_l_Process___init__ => first | k_is | rfl | decide)
      (case h_l_Process_name => first | k_is | rfl | decide)
      (case h_l_Process_reads => first | k_is | rfl | decide)
      (case h_l_Process_writes => first | k_is | rfl | decide)
      (case h_l_Process_written => first | k_is | rfl | decide)
      (case h_l_Process_constants => first | k_is | rfl | decide)
      (case h_l_Process_variables => first | k_is | rfl | decide)
      (case h_l_Process_at_once => first | k_is | rfl | decide)
      (case h_l_are_processes => first | k_is | rfl | decide)
      (case h_l_are_inputs => first | k_is | rfl | decide)
      (case h_l_all_variables => first | k_is | rfl | decide)
      (case h_l_all_constants => first | k_is | rfl | decide)
      (case h_l_first_wrong => first | k_is | rfl | decide)
      (case h_l_Program___init__ => first | k_is | rfl | decide)
      (case h_l_Program_names => first | k_is | rfl | decide)
      (case h_l_Program_place_of => first | k_is | rfl | decide)
      (case h_l_Program___len__ => first | k_is | rfl | decide)
      (case h_l_waiters => first | k_is | rfl | decide)
      (case h_l_woken_at_once => first | k_is | rfl | decide)
      (case h_l_woken_late => first | k_is | rfl | decide)
      (case h_l_woken_by => first | k_is | rfl | decide)
      (case h_l_wakes => first | k_is | rfl | decide)
      (case h_l_wakings => first | k_is | rfl | decide)
      (case h_l__law_pool => first | k_is | rfl | decide)
      (case h_l__law_take => first | k_is | rfl | decide)
      (case h_l__law_one => first | k_is | rfl | decide)
      (case h_l__law_turned => first | k_is | rfl | decide)
      (case h_l__law_words => first | k_is | rfl | decide)
      (case h_l__law_tree => first | k_is | rfl | decide)
      (case h_l__law_tree_text => first | k_is | rfl | decide)
      (case h_l__law_deed_text => first | k_is | rfl | decide)
      (case h_l__law_deeds_drawn => first | k_is | rfl | decide)
      (case h_l__law_plain => first | k_is | rfl | decide)
      (case h_l__law_less_at_once => first | k_is | rfl | decide)
      (case h_l__law_made_process => first | k_is | rfl | decide)
      (case h_l__law_made => first | k_is | rfl | decide)
      (case h_l__law_may_wake => first | k_is | rfl | decide)
      (case h_l__law_refused => first | k_is | rfl | decide)
      (case h_l_law => first | k_is | rfl | decide)
      (case h_lc_NoTerm => first | k_is | rfl | decide)
      (case h_lc_NoDeed => first | k_is | rfl | decide)
      (case h_lc_NoProcess => first | k_is | rfl | decide)
      (case h_lc_NoProgram => first | k_is | rfl | decide)
      (case h_lc_NoName => first | k_is | rfl | decide)
      (case h_r_NoTerm => first | k_is | rfl | decide)
      (case h_s_NoTerm => first | k_is | rfl | decide)
      (case h_n_NoTerm => first | k_is | rfl | decide)
      (case h_t_NoTerm => first | k_is | rfl | decide)
      (case h_k_NoTerm => first | k_is | rfl | decide)
      (case h_x_NoTerm => first | k_is | rfl | decide)
      (case h_y_NoTerm => first | k_is | rfl | decide)
      (case h_xf_NoTerm => first | k_is | rfl | decide)
      (case h_cd_NoTerm => first | k_is | rfl | decide)
      (case h_v2_NoTerm => first | k_is | rfl | decide)
      (case h_fi_NoTerm => first | k_is | rfl | decide)
      (case h_ln_NoTerm => first | k_is | rfl | decide)
      (case h_ce_NoTerm => first | k_is | rfl | decide)
      (case h_se_NoTerm => first | k_is | rfl | decide)
      (case h_up_NoTerm => first | k_is | rfl | decide)
      (case h_te_NoTerm => first | k_is | rfl | decide)
      (case h_kb_NoTerm_TiedError => first | k_is | rfl | decide)
      (case h_r_NoDeed => first | k_is | rfl | decide)
      (case h_s_NoDeed => first | k_is | rfl | decide)
      (case h_n_NoDeed => first | k_is | rfl | decide)
      (case h_t_NoDeed => first | k_is | rfl | decide)
      (case h_k_NoDeed => first | k_is | rfl | decide)
      (case h_x_NoDeed => first | k_is | rfl | decide)
      (case h_y_NoDeed => first | k_is | rfl | decide)
      (case h_xf_NoDeed => first | k_is | rfl | decide)
      (case h_cd_NoDeed => first | k_is | rfl | decide)
      (case h_v2_NoDeed => first | k_is | rfl | decide)
      (case h_fi_NoDeed => first | k_is | rfl | decide)
      (case h_ln_NoDeed => first | k_is | rfl | decide)
      (case h_ce_NoDeed => first | k_is | rfl | decide)
      (case h_se_NoDeed => first | k_is | rfl | decide)
      (case h_up_NoDeed => first | k_is | rfl | decide)
      (case h_te_NoDeed => first | k_is | rfl | decide)
      (case h_kb_NoDeed_TiedError => first | k_is | rfl | decide)
      (case h_r_NoProcess => first | k_is | rfl | decide)
      (case h_s_NoProcess => first | k_is | rfl | decide)
      (case h_n_NoProcess => first | k_is | rfl | decide)
      (case h_t_NoProcess => first | k_is | rfl | decide)
      (case h_k_NoProcess => first | k_is | rfl | decide)
      (case h_x_NoProcess => first | k_is | rfl | decide)
      (case h_y_NoProcess => first | k_is | rfl | decide)
      (case h_xf_NoProcess => first | k_is | rfl | decide)
      (case h_cd_NoProcess => first | k_is | rfl | decide)
      (case h_v2_NoProcess => first | k_is | rfl | decide)
      (case h_fi_NoProcess => first | k_is | rfl | decide)
      (case h_ln_NoProcess => first | k_is | rfl | decide)
      (case h_ce_NoProcess => first | k_is | rfl | decide)
      (case h_se_NoProcess => first | k_is | rfl | decide)
      (case h_up_NoProcess => first | k_is | rfl | decide)
      (case h_te_NoProcess => first | k_is | rfl | decide)
      (case h_kb_NoProcess_TiedError => first | k_is | rfl | decide)
      (case h_r_NoProgram => first | k_is | rfl | decide)
      (case h_s_NoProgram => first | k_is | rfl | decide)
      (case h_n_NoProgram => first | k_is | rfl | decide)
      (case h_t_NoProgram => first | k_is | rfl | decide)
      (case h_k_NoProgram => first | k_is | rfl | decide)
      (case h_x_NoProgram => first | k_is | rfl | decide)
      (case h_y_NoProgram => first | k_is | rfl | decide)
      (case h_xf_NoProgram => first | k_is | rfl | decide)
      (case h_cd_NoProgram => first | k_is | rfl | decide)
      (case h_v2_NoProgram => first | k_is | rfl | decide)
      (case h_fi_NoProgram => first | k_is | rfl | decide)
      (case h_ln_NoProgram => first | k_is | rfl | decide)
      (case h_ce_NoProgram => first | k_is | rfl | decide)
      (case h_se_NoProgram => first | k_is | rfl | decide)
      (case h_up_NoProgram => first | k_is | rfl | decide)
      (case h_te_NoProgram => first | k_is | rfl | decide)
      (case h_kb_NoProgram_TiedError => first | k_is | rfl | decide)
      (case h_s_NoName => first | k_is | rfl | decide)
      (case h_n_NoName => first | k_is | rfl | decide)
      (case h_t_NoName => first | k_is | rfl | decide)
      (case h_k_NoName => first | k_is | rfl | decide)
      (case h_x_NoName => first | k_is | rfl | decide)
      (case h_y_NoName => first | k_is | rfl | decide)
      (case h_xf_NoName => first | k_is | rfl | decide)
      (case h_cd_NoName => first | k_is | rfl | decide)
      (case h_v2_NoName => first | k_is | rfl | decide)
      (case h_fi_NoName => first | k_is | rfl | decide)
      (case h_ln_NoName => first | k_is | rfl | decide)
      (case h_ce_NoName => first | k_is | rfl | decide)
      (case h_se_NoName => first | k_is | rfl | decide)
      (case h_up_NoName => first | k_is | rfl | decide)
      (case h_te_NoName => first | k_is | rfl | decide)
      (case h_kr_NoName => first | k_is | rfl | decide)
      (case h_b_KeyError => first | k_is | rfl | decide)
      (case h_c_is_whole => first | k_is | rfl | decide)
      (case h_k_is_whole => first | k_is | rfl | decide)
      (case h_c_is_number => first | k_is | rfl | decide)
      (case h_k_is_number => first | k_is | rfl | decide)
      (case h_c_is_word => first | k_is | rfl | decide)
      (case h_k_is_word => first | k_is | rfl | decide)
      (case h_c_is_digit => first | k_is | rfl | decide)
      (case h_k_is_digit => first | k_is | rfl | decide)
      (case h_c_are_unlike_words => first | k_is | rfl | decide)
      (case h_k_are_unlike_words => first | k_is | rfl | decide)
      (case h_c_ascending_words => first | k_is | rfl | decide)
      (case h_k_ascending_words => first | k_is | rfl | decide)
      (case h_c_ascending_numbers => first | k_is | rfl | decide)
      (case h_k_ascending_numbers => first | k_is | rfl | decide)
      (case h_c_word_at => first | k_is | rfl | decide)
      (case h_k_word_at => first | k_is | rfl | decide)
      (case h_c_plan_at => first | k_is | rfl | decide)
      (case h_k_plan_at => first | k_is | rfl | decide)
      (case h_c_text_of => first | k_is | rfl | decide)
      (case h_k_text_of => first | k_is | rfl | decide)
      (case h_c_leaves_of => first | k_is | rfl | decide)
      (case h_k_leaves_of => first | k_is | rfl | decide)
      (case h_c_stands_in => first | k_is | rfl | decide)
      (case h_k_stands_in => first | k_is | rfl | decide)
      (case h_c_plan_of => first | k_is | rfl | decide)
      (case h_k_plan_of => first | k_is | rfl | decide)
      (case h_pg_Term => first | k_is | rfl | decide)
      (case h_hd_Term => first | k_is | rfl | decide)
      (case h_po_Term => first | k_is | rfl | decide)
      (case h_sa_Term => first | k_is | rfl | decide)
      (case h_kp_Term => first | k_is | rfl | decide)
      (case h_ty_Term => first | k_is | rfl | decide)
      (case h_mo_Term => first | k_is | rfl | decide)
      (case h_kit_Term_NoneType => first | k_is | rfl | decide)
      (case h_kit_Term_bool => first | k_is | rfl | decide)
      (case h_kit_Term_int => first | k_is | rfl | decide)
      (case h_kit_Term_str => first | k_is | rfl | decide)
      (case h_kit_Term_list => first | k_is | rfl | decide)
      (case h_kit_Term_tuple => first | k_is | rfl | decide)
      (case h_kit_Term_dict => first | k_is | rfl | decide)
      (case h_kik_Term_list => first | k_is | rfl | decide)
      (case h_kik_Term_tuple => first | k_is | rfl | decide)
      (case h_kik_Term_str => first | k_is | rfl | decide)
      (case h_kit_Term => first | k_is | rfl | decide)
      (case h_c_Term___init__ => first | k_is | rfl | decide)
      (case h_k_Term___init__ => first | k_is | rfl | decide)
      (case h_mk_Term => first | k_is | rfl | decide)
      (case h_c_Term_choice => first | k_is | rfl | decide)
      (case h_k_Term_choice => first | k_is | rfl | decide)
      (case h_r1_Term_choice => first | k_is | rfl | decide)
      (case h_r2_Term_choice => first | k_is | rfl | decide)
      (case h_c_Term___str__ => first | k_is | rfl | decide)
      (case h_k_Term___str__ => first | k_is | rfl | decide)
      (case h_fm_Term => first | k_is | rfl | decide)
      (case h_c_Term_variables => first | k_is | rfl | decide)
      (case h_k_Term_variables => first | k_is | rfl | decide)
      (case h_c_Term_constants => first | k_is | rfl | decide)
      (case h_k_Term_constants => first | k_is | rfl | decide)
      (case h_c_Term_parts => first | k_is | rfl | decide)
      (case h_k_Term_parts => first | k_is | rfl | decide)
      (case h_c_Term___eq__ => first | k_is | rfl | decide)
      (case h_k_Term___eq__ => first | k_is | rfl | decide)
      (case h_ne_Term => first | k_is | rfl | decide)
      (case h_nf_Term => first | k_is | rfl | decide)
      (case h_nx_Term_int => first | k_is | rfl | decide)
      (case h_nx_Term_tuple => first | k_is | rfl | decide)
      (case h_nx_Term_NoneType => first | k_is | rfl | decide)
      (case h_nx_Term_bool => first | k_is | rfl | decide)
      (case h_nx_Term_list => first | k_is | rfl | decide)
      (case h_nx_Term_dict => first | k_is | rfl | decide)
      (case h_c_Term_within => first | k_is | rfl | decide)
      (case h_k_Term_within => first | k_is | rfl | decide)
      (case h_no_Term_tree => first | k_is | rfl | decide)
      (case h_c_deed_parts => first | k_is | rfl | decide)
      (case h_k_deed_parts => first | k_is | rfl | decide)
      (case h_pg_Deed => first | k_is | rfl | decide)
      (case h_hd_Deed => first | k_is | rfl | decide)
      (case h_po_Deed => first | k_is | rfl | decide)
      (case h_sa_Deed => first | k_is | rfl | decide)
      (case h_kp_Deed => first | k_is | rfl | decide)
      (case h_ty_Deed => first | k_is | rfl | decide)
      (case h_mo_Deed => first | k_is | rfl | decide)
      (case h_kit_Deed_NoneType => first | k_is | rfl | decide)
      (case h_kit_Deed_bool => first | k_is | rfl | decide)
      (case h_kit_Deed_int => first | k_is | rfl | decide)
      (case h_kit_Deed_str => first | k_is | rfl | decide)
      (case h_kit_Deed_list => first | k_is | rfl | decide)
      (case h_kit_Deed_tuple => first | k_is | rfl | decide)
      (case h_kit_Deed_dict => first | k_is | rfl | decide)
      (case h_kik_Deed_list => first | k_is | rfl | decide)
      (case h_kik_Deed_tuple => first | k_is | rfl | decide)
      (case h_kik_Deed_str => first | k_is | rfl | decide)
      (case h_kit_Deed => first | k_is | rfl | decide)
      (case h_c_Deed___init__ => first | k_is | rfl | decide)
      (case h_k_Deed___init__ => first | k_is | rfl | decide)
      (case h_kw_Deed___init___late => first | k_is | rfl | decide)
      (case h_mk_Deed => first | k_is | rfl | decide)
      (case h_c_Deed_of => first | k_is | rfl | decide)
      (case h_k_Deed_of => first | k_is | rfl | decide)
      (case h_r1_Deed_of => first | k_is | rfl | decide)
      (case h_r2_Deed_of => first | k_is | rfl | decide)
      (case h_c_Deed_variable => first | k_is | rfl | decide)
      (case h_k_Deed_variable => first | k_is | rfl | decide)
      (case h_q2_Deed_variable => first | k_is | rfl | decide)
      (case h_q3_Deed_variable => first | k_is | rfl | decide)
      (case h_c_Deed_term => first | k_is | rfl | decide)
      (case h_k_Deed_term => first | k_is | rfl | decide)
      (case h_q2_Deed_term => first | k_is | rfl | decide)
      (case h_q3_Deed_term => first | k_is | rfl | decide)
      (case h_c_Deed_late => first | k_is | rfl | decide)
      (case h_k_Deed_late => first | k_is | rfl | decide)
      (case h_q2_Deed_late => first | k_is | rfl | decide)
      (case h_q3_Deed_late => first | k_is | rfl | decide)
      (case h_c_Deed___str__ => first | k_is | rfl | decide)
      (case h_k_Deed___str__ => first | k_is | rfl | decide)
      (case h_fm_Deed => first | k_is | rfl | decide)
      (case h_c_Deed___eq__ => first | k_is | rfl | decide)
      (case h_k_Deed___eq__ => first | k_is | rfl | decide)
      (case h_ne_Deed => first | k_is | rfl | decide)
      (case h_nf_Deed => first | k_is | rfl | decide)
      (case h_nx_Deed_int => first | k_is | rfl | decide)
      (case h_nx_Deed_tuple => first | k_is | rfl | decide)
      (case h_nx_Deed_NoneType => first | k_is | rfl | decide)
      (case h_nx_Deed_bool => first | k_is | rfl | decide)
      (case h_nx_Deed_list => first | k_is | rfl | decide)
      (case h_nx_Deed_dict => first | k_is | rfl | decide)
      (case h_no_Deed_is_late => first | k_is | rfl | decide)
      (case h_no_Deed_source => first | k_is | rfl | decide)
      (case h_no_Deed_target => first | k_is | rfl | decide)
      (case h_c_deeds_of => first | k_is | rfl | decide)
      (case h_k_deeds_of => first | k_is | rfl | decide)
      (case h_pg_Process => first | k_is | rfl | decide)
      (case h_hd_Process => first | k_is | rfl | decide)
      (case h_po_Process => first | k_is | rfl | decide)
      (case h_sa_Process => first | k_is | rfl | decide)
      (case h_kp_Process => first | k_is | rfl | decide)
      (case h_ty_Process => first | k_is | rfl | decide)
      (case h_mo_Process => first | k_is | rfl | decide)
      (case h_kit_Process_NoneType => first | k_is | rfl | decide)
      (case h_kit_Process_bool => first | k_is | rfl | decide)
      (case h_kit_Process_int => first | k_is | rfl | decide)
      (case h_kit_Process_str => first | k_is | rfl | decide)
      (case h_kit_Process_list => first | k_is | rfl | decide)
      (case h_kit_Process_tuple => first | k_is | rfl | decide)
      (case h_kit_Process_dict => first | k_is | rfl | decide)
      (case h_kik_Process_list => first | k_is | rfl | decide)
      (case h_kik_Process_tuple => first | k_is | rfl | decide)
      (case h_kik_Process_str => first | k_is | rfl | decide)
      (case h_kit_Process => first | k_is | rfl | decide)
      (case h_c_Process___init__ => first | k_is | rfl | decide)
      (case h_k_Process___init__ => first | k_is | rfl | decide)
      (case h_mk_Process => first | k_is | rfl | decide)
      (case h_c_Process_name => first | k_is | rfl | decide)
      (case h_k_Process_name => first | k_is | rfl | decide)
      (case h_q2_Process_name => first | k_is | rfl | decide)
      (case h_q3_Process_name => first | k_is | rfl | decide)
      (case h_c_Process_reads => first | k_is | rfl | decide)
      (case h_k_Process_reads => first | k_is | rfl | decide)
      (case h_c_Process_writes => first | k_is | rfl | decide)
      (case h_k_Process_writes => first | k_is | rfl | decide)
      (case h_c_Process_written => first | k_is | rfl | decide)
      (case h_k_Process_written => first | k_is | rfl | decide)
      (case h_c_Process_constants => first | k_is | rfl | decide)
      (case h_k_Process_constants => first | k_is | rfl | decide)
      (case h_c_Process_variables => first | k_is | rfl | decide)
      (case h_k_Process_variables => first | k_is | rfl | decide)
      (case h_c_Process_at_once => first | k_is | rfl | decide)
      (case h_k_Process_at_once => first | k_is | rfl | decide)
      (case h_no_Process_done => first | k_is | rfl | decide)
      (case h_no_Process_title => first | k_is | rfl | decide)
      (case h_no_Process_waited => first | k_is | rfl | decide)
      (case h_c_are_processes => first | k_is | rfl | decide)
      (case h_k_are_processes => first | k_is | rfl | decide)
      (case h_c_are_inputs => first | k_is | rfl | decide)
      (case h_k_are_inputs => first | k_is | rfl | decide)
      (case h_c_all_variables => first | k_is | rfl | decide)
      (case h_k_all_variables => first | k_is | rfl | decide)
      (case h_c_all_constants => first | k_is | rfl | decide)
      (case h_k_all_constants => first | k_is | rfl | decide)
      (case h_c_first_wrong => first | k_is | rfl | decide)
      (case h_k_first_wrong => first | k_is | rfl | decide)
      (case h_pg_Program => first | k_is | rfl | decide)
      (case h_hd_Program => first | k_is | rfl | decide)
      (case h_po_Program => first | k_is | rfl | decide)
      (case h_sa_Program => first | k_is | rfl | decide)
      (case h_kp_Program => first | k_is | rfl | decide)
      (case h_ty_Program => first | k_is | rfl | decide)
      (case h_mo_Program => first | k_is | rfl | decide)
      (case h_kit_Program_NoneType => first | k_is | rfl | decide)
      (case h_kit_Program_bool => first | k_is | rfl | decide)
      (case h_kit_Program_int => first | k_is | rfl | decide)
      (case h_kit_Program_str => first | k_is | rfl | decide)
      (case h_kit_Program_list => first | k_is | rfl | decide)
      (case h_kit_Program_tuple => first | k_is | rfl | decide)
      (case h_kit_Program_dict => first | k_is | rfl | decide)
      (case h_kik_Program_list => first | k_is | rfl | decide)
      (case h_kik_Program_tuple => first | k_is | rfl | decide)
      (case h_kik_Program_str => first | k_is | rfl | decide)
      (case h_kit_Program => first | k_is | rfl | decide)
      (case h_c_Program___init__ => first | k_is | rfl | decide)
      (case h_k_Program___init__ => first | k_is | rfl | decide)
      (case h_mk_Program => first | k_is | rfl | decide)
      (case h_c_Program_names => first | k_is | rfl | decide)
      (case h_k_Program_names => first | k_is | rfl | decide)
      (case h_c_Program_place_of => first | k_is | rfl | decide)
      (case h_k_Program_place_of => first | k_is | rfl | decide)
      (case h_c_Program___len__ => first | k_is | rfl | decide)
      (case h_k_Program___len__ => first | k_is | rfl | decide)
      (case h_no_Program_given => first | k_is | rfl | decide)
      (case h_no_Program_line => first | k_is | rfl | decide)
      (case h_no_Program_numbers => first | k_is | rfl | decide)
      (case h_no_Program_titles => first | k_is | rfl | decide)
      (case h_no_Program_words => first | k_is | rfl | decide)
      (case h_c_waiters => first | k_is | rfl | decide)
      (case h_k_waiters => first | k_is | rfl | decide)
      (case h_c_woken_at_once => first | k_is | rfl | decide)
      (case h_k_woken_at_once => first | k_is | rfl | decide)
      (case h_c_woken_late => first | k_is | rfl | decide)
      (case h_k_woken_late => first | k_is | rfl | decide)
      (case h_c_woken_by => first | k_is | rfl | decide)
      (case h_k_woken_by => first | k_is | rfl | decide)
      (case h_c_wakes => first | k_is | rfl | decide)
      (case h_k_wakes => first | k_is | rfl | decide)
      (case h_c_wakings => first | k_is | rfl | decide)
      (case h_k_wakings => first | k_is | rfl | decide)
      (case h_c__law_pool => first | k_is | rfl | decide)
      (case h_k__law_pool => first | k_is | rfl | decide)
      (case h_c__law_take => first | k_is | rfl | decide)
      (case h_k__law_take => first | k_is | rfl | decide)
      (case h_c__law_one => first | k_is | rfl | decide)
      (case h_k__law_one => first | k_is | rfl | decide)
      (case h_c__law_turned => first | k_is | rfl | decide)
      (case h_k__law_turned => first | k_is | rfl | decide)
      (case h_c__law_words => first | k_is | rfl | decide)
      (case h_k__law_words => first | k_is | rfl | decide)
      (case h_c__law_tree => first | k_is | rfl | decide)
      (case h_k__law_tree => first | k_is | rfl | decide)
      (case h_c__law_tree_text => first | k_is | rfl | decide)
      (case h_k__law_tree_text => first | k_is | rfl | decide)
      (case h_c__law_deed_text => first | k_is | rfl | decide)
      (case h_k__law_deed_text => first | k_is | rfl | decide)
      (case h_c__law_deeds_drawn => first | k_is | rfl | decide)
      (case h_k__law_deeds_drawn => first | k_is | rfl | decide)
      (case h_c__law_plain => first | k_is | rfl | decide)
      (case h_k__law_plain => first | k_is | rfl | decide)
      (case h_c__law_less_at_once => first | k_is | rfl | decide)
      (case h_k__law_less_at_once => first | k_is | rfl | decide)
      (case h_c__law_made_process => first | k_is | rfl | decide)
      (case h_k__law_made_process => first | k_is | rfl | decide)
      (case h_c__law_made => first | k_is | rfl | decide)
      (case h_k__law_made => first | k_is | rfl | decide)
      (case h_c__law_may_wake => first | k_is | rfl | decide)
      (case h_k__law_may_wake => first | k_is | rfl | decide)
      (case h_c__law_refused => first | k_is | rfl | decide)
      (case h_k__law_refused => first | k_is | rfl | decide)
      (case h_c_law => first | k_is | rfl | decide)
      (case h_k_law => first | k_is | rfl | decide)
      (case h_b_len => first | k_is | rfl | decide)
      (case h_b_max => first | k_is | rfl | decide)
      (case h_b_min => first | k_is | rfl | decide)
      (case h_b_int => first | k_is | rfl | decide)
      (case h_b_str => first | k_is | rfl | decide)
      (case h_b_tuple => first | k_is | rfl | decide)
      (case h_b_list => first | k_is | rfl | decide)
      (case h_b_bool => first | k_is | rfl | decide)
      (case h_b_dict => first | k_is | rfl | decide)
      (case h_b_set => first | k_is | rfl | decide)
      (case h_b_isinstance => first | k_is | rfl | decide)
      (case h_b_sorted => first | k_is | rfl | decide)
      (case h_b_repr => first | k_is | rfl | decide)
      (case h_b_range => first | k_is | rfl | decide)
      (case h_b_enumerate => first | k_is | rfl | decide)
      (case h_b_zip => first | k_is | rfl | decide)
      (case h_b_sum => first | k_is | rfl | decide)
      (case h_b_all => first | k_is | rfl | decide)
      (case h_b_any => first | k_is | rfl | decide)
      (case h_sup => first | k_is | rfl | decide)
      (case h_topS => first | k_is | rfl | decide)
      (case h_opq => first | k_is | rfl | decide)
      (case h_tn => first | k_is | rfl | decide)
      (case h_tt => first | k_is | rfl | decide)
    obtain ⟨a, T⟩ := T
    have e := hmg.symm.trans T.law.mg
    cases e
    exact ⟨a.d_law, T.blaw, fun base _ _ => Z.ok_law T⟩
