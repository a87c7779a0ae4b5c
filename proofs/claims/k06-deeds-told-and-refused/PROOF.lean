import PyProof.Rows.All
import Wide.All
import OpenK.AllK
import Wide.FinOn
import HandS.ForMost
import HandS.ForExc
import HandS.Wide
import HandS.WideBits
import HandS.RaiseMore
import HandS.IsInst
import HandS.ExcField
import HandS.TryMany
import HandS.Property
import HandS.Star
import HandS.Deep
import HandS.NoneIn
import HandS.SetKeys
import HandS.FStr
import HandS.OwnEq
import HandS.Flow
import HandS.TupAny
import HandS.ExcSuper
import HandS.ExcInit
import HandS.Defaults
import HandS.ClsMeth
import KE.KExcSuper
import PyProof.ReprRoads
import HandS.EndBits
import HandS.Walk
import PyProof.StrLawsRepr
import PyProof.ReprLen
import PyProof.StrOps2
import HandS.ExcIs
import KE.KCallOwn
import HandS.MakeKwOnly
import HandS.Lambda
import HandS.EndOwn
import KE.KFmtOwn
import PySem.Challenge.RW_tiedsteps_k06_deeds_told_and_refused
set_option Elab.async false
set_option linter.all false
set_option maxRecDepth 100000
set_option maxHeartbeats 4000000
namespace Z
open PySem PySem.Spec PyProof.Rows L2
theorem sNew {H : Hp} {p : Addr} {o : HO} (h : H p = none) : Same H (upd H p o) := fun b u e => by
  rw [upd_ne (ne_of_none e h)]
  exact e
theorem new {H : Hp} {o : HO} {Q : V → Hp → Prop} (h : ∀ p H1, H p = none → Same H H1 → H1 p = some o → Q (.ref p) H1) : ∀ p, H p = none → Q (.ref p) (upd H p o) :=
  fun p hp => h p _ hp (sNew hp) upd_same
def But (l : Addr) (H H' : Hp) : Prop := ∀ b o, b ≠ l → H b = some o → H' b = some o
theorem But.same {H H' : Hp} (e : Same H H') (l : Addr) : But l H H' := fun b o _ h => e b o h
theorem But.upd {H : Hp} {l : Addr} {o : HO} : But l H (L2.upd H l o) := fun b u hb e => by
  rw [upd_ne hb]
  exact e
theorem But.trans {l : Addr} {H H1 H2 : Hp} (a : But l H H1) (b : But l H1 H2) : But l H H2 := fun c o hc h => b c o hc (a c o hc h)
theorem But.refl (l : Addr) (H : Hp) : But l H H := fun _ _ _ h => h
theorem But.fresh {l : Addr} {H H1 H2 : Hp} (n : H l = none) (a : Same H H1) (b : But l H1 H2) : Same H H2 := fun c o h => b c o (ne_of_none h n) (a c o h)
theorem SqL.same {K : PySem.W.Frag} {H H' : Hp} {a : Addr} {xs : List V} (e : Same H H') (h : SqL K H a xs) : SqL K H' a xs := e.seq h
theorem SqT.same {K : PySem.W.Frag} {H H' : Hp} {a : Addr} {xs : List V} (e : Same H H') (h : SqT K H a xs) : SqT K H' a xs := by
  rcases h with (h | ⟨o, h⟩) | h
  · exact .inl (.inl (e _ _ h))
  · exact .inl (.inr ⟨o, e _ _ h⟩)
  · exact .inr h
structure TK (H H' : Hp) : Prop where
  tup : ∀ b xs, H b = some (.tup xs) → H' b = some (.tup xs)
  frz : ∀ b o u, H b = some (.frz o u) → H' b = some (.frz o u)
theorem TK.of {H H' : Hp} (e : Same H H') : TK H H' := ⟨fun _ _ h => e _ _ h, fun _ _ _ h => e _ _ h⟩
theorem TK.trans {H H1 H2 : Hp} (a : TK H H1) (b : TK H1 H2) : TK H H2 := ⟨fun c xs h => b.tup c xs (a.tup c xs h), fun c o u h => b.frz c o u (a.frz c o u h)⟩
theorem TK.lst {H : Hp} {l : Addr} {xs : List V} {o : HO} (h : H l = some (.lst xs)) : TK H (upd H l o) :=
  ⟨fun b ys e => by rw [upd_ne (ne_of e h (by intro z; cases z))]; exact e, fun b o u e => by rw [upd_ne (ne_of e h (by intro z; cases z))]; exact e⟩
theorem SqT.tk {K : PySem.W.Frag} {H H' : Hp} {a : Addr} {xs : List V} (e : TK H H') (h : SqT K H a xs) : SqT K H' a xs := by
  rcases h with (h | ⟨o, h⟩) | h
  · exact .inl (.inl (e.tup _ _ h))
  · exact .inl (.inr ⟨o, e.frz _ _ _ h⟩)
  · exact .inr h
mutual
theorem dp_same {K : PySem.W.Frag} {H H' : Hp} (e : Same H H') : ∀ {v : V} {d : PyData}, Dp K H v d → Dp K H' v d
  | _, _, .non => .non
  | _, _, .bl b => .bl b
  | _, _, .int i => .int i
  | _, _, .str x => .str x
  | _, _, .lst h a => .lst (SqL.same e h) (dpAll_same e a)
  | _, _, .tup h a => .tup (SqT.same e h) (dpAll_same e a)
theorem dpAll_same {K : PySem.W.Frag} {H H' : Hp} (e : Same H H') : ∀ {vs : List V} {ds : List PyData}, DpAll K H vs ds → DpAll K H' vs ds
  | _, _, .nil => .nil
  | _, _, .cons h a => .cons (dp_same e h) (dpAll_same e a)
end
theorem DpAll.length {K : PySem.W.Frag} {H : Hp} : ∀ {vs : List V} {ds : List PyData}, DpAll K H vs ds → vs.length = ds.length
  | _, _, .nil => rfl
  | _, _, .cons _ a => congrArg (· + 1) (DpAll.length a)
theorem DpAll.app {K : PySem.W.Frag} {H : Hp} : ∀ {vs : List V} {ds : List PyData} {ws : List V} {es : List PyData}, DpAll K H vs ds → DpAll K H ws es → DpAll K H (vs ++ ws) (ds ++ es)
  | _, _, _, _, .nil, b => b
  | _, _, _, _, .cons h a, b => .cons h (DpAll.app a b)
theorem DpAll.get {K : PySem.W.Frag} {H : Hp} : ∀ {vs : List V} {ds : List PyData} {i : Nat} {v : V}, DpAll K H vs ds → vs[i]? = some v → ∃ d, ds[i]? = some d ∧ Dp K H v d
  | _, _, _, _, .nil, e => by simp at e
  | _, _, 0, _, .cons h a, e => by
    simp at e
    subst e
    exact ⟨_, rfl, h⟩
  | _, _, i + 1, v, .cons h a, e => by
    obtain ⟨d, h1, h2⟩ := DpAll.get (i := i) (v := v) a (by simpa using e)
    exact ⟨d, by simpa using h1, h2⟩
theorem dpAll_map {K : PySem.W.Frag} {H : Hp} {α : Type} (f : α → V) (g : α → PyData) (h : ∀ a, Dp K H (f a) (g a)) : ∀ l : List α, DpAll K H (l.map f) (l.map g)
  | [] => .nil
  | a :: r => .cons (h a) (dpAll_map f g h r)
section
variable {X : Cx}
theorem OpR.box {f : Value → Value → Sem Value} {r r' : R2} (h : OpR X f r) (e : ∀ x y H Q, r' x y H Q → r x y H Q) : OpR X f r' := fun pins s σ H x y v u Q I rx ry q => h pins s σ H x y v u Q I rx ry (e _ _ _ _ q)
structure rAddA (K : PySem.W.Frag) (x y : V) (H : Hp) (Q : VK) : Prop where
  h : rI0 (fun i j => .int (i + j)) x y H Q ∨ (∃ i j, x = .str i ∧ y = .str j ∧ i.length + j.length ≤ sizeLine ∧ Q (.str (i ++ j)) H) ∨ rCat x y H Q ∨ rCatA K x y H Q
theorem op_addA {K : PySem.W.Frag} (k : X.K = K := by rfl) : OpR X (binaryOp .Add) (rAddA K) := by
  subst k
  exact OpR.box (OpR.or op_add (OpR.or op_add_str (OpR.or op_cat op_catA))) fun _ _ _ _ q => q.h
theorem addI {K : PySem.W.Frag} {i j : Int} {H : Hp} {Q : VK} (q : Q (.int (i + j)) H) : rAddA K (.int i) (.int j) H Q := ⟨.inl ⟨i, j, rfl, rfl, q⟩⟩
theorem addS {K : PySem.W.Frag} {i j : Str} {H : Hp} {Q : VK} (h : i.length + j.length ≤ sizeLine) (q : Q (.str (i ++ j)) H) : rAddA K (.str i) (.str j) H Q := ⟨.inr (.inl ⟨i, j, rfl, rfl, h, q⟩)⟩
theorem addL {K : PySem.W.Frag} {a b : Addr} {xs ys : List V} {H : Hp} {Q : VK} (ha : H a = some (.lst xs)) (hb : H b = some (.lst ys)) (h : xs.length + ys.length ≤ sizeLine)
    (q : ∀ p H1, H p = none → Same H H1 → H1 p = some (.lst (xs ++ ys)) → Q (.ref p) H1) : rAddA K (.ref a) (.ref b) H Q := ⟨.inr (.inr (.inl ⟨a, b, xs, ys, rfl, rfl, ha, hb, h, new q⟩))⟩
structure rMulA (x y : V) (H : Hp) (Q : VK) : Prop where
  h : rI CMulX (fun i j => .int (i * j)) x y H Q ∨ rRep x y H Q
theorem op_mulA : OpR X (binaryOp .Mult) rMulA := OpR.box (OpR.or op_mulX op_rep) fun _ _ _ _ q => q.h
theorem mulI {i j : Int} {H : Hp} {Q : VK} (h : CMulX i j) (q : Q (.int (i * j)) H) : rMulA (.int i) (.int j) H Q := ⟨.inl ⟨i, j, rfl, rfl, h, q⟩⟩
structure rInA (K : PySem.W.Frag) (neg : Bool) (x y : V) (H : Hp) (Q : VK) : Prop where
  h : rIn K neg x y H Q ∨ (∃ (c : Nat) (z : Str), x = .str ⟨#[c]⟩ ∧ y = .str z ∧ Q (.bl (if neg then !decide (c ∈ z.cps.toList) else decide (c ∈ z.cps.toList))) H)
theorem op_inA {K : PySem.W.Frag} (k : X.K = K := by rfl) : OpR X (compareOp .In) (rInA K false) := by
  subst k
  exact OpR.box (OpR.or op_in_seq (by
    intro pins s σ H x y v u Q I rx ry ⟨c, z, e1, e2, q⟩
    exact op_in_sign pins s σ H x y v u Q I rx ry ⟨c, z, e1, e2, q⟩)) fun _ _ _ _ q => q.h
theorem op_notInA {K : PySem.W.Frag} (k : X.K = K := by rfl) : OpR X (compareOp .NotIn) (rInA K true) := by
  subst k
  exact OpR.box (OpR.or op_notIn_seq (by
    intro pins s σ H x y v u Q I rx ry ⟨c, z, e1, e2, q⟩
    exact op_notIn_sign pins s σ H x y v u Q I rx ry ⟨c, z, e1, e2, q⟩)) fun _ _ _ _ q => q.h
theorem inSgn {K : PySem.W.Frag} {c : Nat} {z : Str} {H : Hp} {Q : VK} (q : Q (.bl (decide (c ∈ z.cps.toList))) H) : rInA K false (.str ⟨#[c]⟩) (.str z) H Q := ⟨.inr ⟨c, z, rfl, rfl, q⟩⟩
theorem ninSgn {K : PySem.W.Frag} {c : Nat} {z : Str} {H : Hp} {Q : VK} (q : Q (.bl (!decide (c ∈ z.cps.toList))) H) : rInA K true (.str ⟨#[c]⟩) (.str z) H Q := ⟨.inr ⟨c, z, rfl, rfl, q⟩⟩
end
end Z
set_option maxRecDepth 100000
set_option maxHeartbeats 4000000
namespace Z
open PySem PySem.Spec PyProof.Rows L2
structure FnG (P : Program) (w : World) (K : PySem.W.Frag) (mg : Str → Option Value) (base : Heap) (CX : CXT) (k : Nat) (f : Addr) (fd : FuncData) (ps : List Str) (sp : Sp) : Prop where
  len : ∀ vs H Q E, sp vs H Q E → vs.length = ps.length
  run : ∀ (A : Around) (outer : List Env) (s : Shared) (H : Hp) (args : Args) (us : List Value) (vs : List V) (Q : VK) (E : XK), Room k A → A.guards = some [] →
    Env0 P w K mg base A outer s H → BindsTo s fd args (ps.zip us) → Vals vs us → sp vs H Q E → codeAny (model P w) A (.call (.ref f) args) (CR CX outer P w H s Q E) s
section
variable {P : Program} {w : World} {K : PySem.W.Frag} {mg : Str → Option Value} {base : Heap} {CX : CXT}
theorem toG {k : Nat} {f : Addr} {fd : FuncData} {ps : List Str} {sp : Sp} (F : FnOk P w K mg base CX k f fd ps sp) : FnG P w K mg base CX k f fd ps sp :=
  ⟨F.len, fun A outer s H args us vs Q E hr _ => F.run A outer s H args us vs Q E hr⟩
theorem FnG.mono {j k : Nat} {f : Addr} {fd : FuncData} {ps : List Str} {sp : Sp} (F : FnG P w K mg base CX j f fd ps sp) (h : j ≤ k) : FnG P w K mg base CX k f fd ps sp :=
  ⟨F.len, fun A outer s H args us vs Q E hr => F.run A outer s H args us vs Q E (hr.mono h)⟩
theorem okG {x qual : Str} {st : Stmt} {f : Addr} {fd : FuncData} {N ps : List Str} {k : Nat} {sp : Sp} (F : Fun K x qual st f fd) (S : FnScope N ps (defScope st)) (len : ∀ vs H Q E, sp vs H Q E → vs.length = ps.length)
    (hbody : ∀ (cdv : Value) (A : Around) (outer : List Env) (s : Shared) (H : Hp) (vs : List V) (Q : VK) (E : XK), Room k (A.deeper (envOfC qual (defScope st) s.heap.objs.size f cdv)) → A.guards = some [] → sp vs H Q E →
      ∃ t, PSs (cxOf CX P w K mg base N qual (defScope st) f cdv A outer s H E) (defBody st) t ∧ t { nx := fun _ H' => Q .non H', rt := Q } (start N vs) H) : FnG P w K mg base CX (k + 1) f fd ps sp := by
  obtain ⟨oc, od, kV, doc, pm, an, cdv, ct, osl, rfl, lk, code⟩ := F.ex
  refine ⟨len, fun A outer s H args us vs Q E room gu e0 bd rv wish => ?_⟩
  have hin : K.In s.heap := e0.mod.kin.keeps fun b o e => (e0.bs b o e).1
  have big : s.heap.NoLimit := e0.mod.nolimit.keeps fun b o e => (e0.bs b o e).1
  have count := len vs H Q E wish
  refine codeAny_call_function room.depth (hin _ _ lk) rfl S.co S.gen rfl (PySem.W.codeRec_of hin code) (bd _ _ _ _ ?_)
  refine wpAny_newFunctionEnv_cells S.kind (fun y hy => ?_) fun env he s1 y => ?_
  · exact (S.par y.1 (List.of_mem_zip hy).1).imp id fun q => ⟨q, PySem.W.cellsFrom_some _ _ _ (.inl q)⟩
  · subst he
    refine ⟨big.keeps y.toInCall.keep, codeAny_func ?_⟩
    obtain ⟨t, der, rd⟩ := hbody cdv A outer s H vs Q E (room.deeper _) gu wish
    refine wpAny_mono (der.run [] s1 (start N vs) H _ (inv_start S room.hd e0 count rv y) rd) (fun fl s' out => ?_) fun _ _ out => out
    match fl, out with
    | .ret u, ⟨v, _, H', J, r, q⟩ => exact ⟨v, H', J.os, J.bare, J.base, J.hok, r, q⟩
    | .next, ⟨_, H', J, q⟩ => exact ⟨.non, H', J.os, J.bare, J.base, J.hok, rfl, q⟩
    | .brk, ⟨_, _, _, q⟩ => exact q.elim
    | .cont, ⟨_, _, _, q⟩ => exact q.elim
end
section
variable {X : Cx} {CX : CXT} {k : Nat} {f : Addr} {fd : FuncData} {ps : List Str} {sp : Sp} {E : L2.St → XK} {x : Str} {p pos : Pos} {e : Expr} {es : List Expr} {t : TA}
theorem run_G {pins : List (Addr × Obj)} {σ : L2.St} {H : Hp} {s : Shared} {Q : VK} {us : List Value} {vs : List V} (F : FnG X.prog X.w X.K X.mg X.base CX k f fd ps sp) (hr : Room k X.A) (gu : X.A.guards = some []) (hb : Binds X.K fd ps [])
    (hx : PassesAt CX X σ (E σ)) (I : Inv X pins σ H s) (r : Vals vs us) (h : sp vs H Q (E σ)) : wpAny (model X.prog X.w) X.A (call (.ref f) us) (EP X pins σ Q) X.xe s := by
  have hl : us.length = ps.length := by
    rw [← r.length]
    exact F.len _ _ _ _ h
  have bd := hb s us I.kIn (by rw [List.append_nil]; exact hl)
  rw [List.append_nil] at bd
  refine wpAny_call (codeAny_mono (F.run X.A X.stack s H ⟨us, []⟩ us vs Q (E σ) hr gu I.env0 bd r h) fun res s' out => ?_)
  match res, out with
  | .error er, out => exact hx pins H s er s' I out
  | .ok (.ret u), out => exact I.after out
  | .ok .next, out => exact out.elim
  | .ok .brk, out => exact out.elim
  | .ok .cont, out => exact out.elim
theorem pe_callG (F : FnG X.prog X.w X.K X.mg X.base CX k f fd ps sp) (hr : Room k X.A) (gu : X.A.guards = some []) (hg : Gl X x) (hm : X.mg x = some (.ref f)) (hk : PySem.W.keepIn X.K (.ref f) = true) (hb : Binds X.K fd ps [])
    (hx : ∀ σ, PassesAt CX X σ (E σ)) (ha : PA X (e :: es) t) (hdb : (x == ("__debug__" : Str)) = false := by decide)
    (he : starEach (e :: es) X.env = (false, eval e X.env) :: starEach es X.env := by rfl) (hpl : (backTo pos (starEach es X.env)).any (·.1) = false := by rfl) :
    PE X (.Call (.Name x p) (e :: es) [] pos) (tCallS sp E t) :=
  ⟨fun pins s σ _ _ I h => wpAny_Call_Name_kw (ld_glob I hg hm (PySem.W.callWith_K (h₀ := X.base) I.ok.mod.kin hk
    (thn (ha.run pos pins s σ _ _ I h) fun _ _ ⟨_, _, J, r, q⟩ => ⟨J.kIn, run_G F hr gu hb (hx σ) J r q⟩) he hpl) hdb)⟩
end
theorem passAt0 {X : Cx} (σ : L2.St) : PassesAt CX0 X σ (fun _ _ _ => False) := fun _ _ _ _ _ _ h => h.elim
theorem passAtL {X : Cx} (σ : L2.St) : PassesAt (L2.CX X.prog X.w) X σ (fun _ _ _ => False) := fun pins H s e s' I h => passL pins σ H s e s' I h
section
variable {P : Program} {w : World} {K : PySem.W.Frag} {mg mb : Str → Option Value} {CX : CXT}
theorem law_G {k : Nat} {fa a : Addr} {fd : FuncData} {x : Str} {sp : Sp} {s1 : Shared} {vs : List Value} {ns : List Int}
    (hin : K.In s1.heap) (glob : s1.heap.Ns mainGlobals mg) (blt : s1.heap.Ns builtinsNs mb) (bb : ∀ x : Str, x ≠ "__name__" → mb x = bootBuiltins x) (lim : s1.heap.NoLimit) (bare : s1.gens = #[])
    (scr : s1.heap.get? a = some { cls := .type "list", data := .seq vs.toArray }) (its : IntsAre vs ns) (few : ns.length ≤ sizeLine) (room : Room k callerA)
    (F : ∀ base : Heap, K.In base → base.Ns mainGlobals mg → FnG P w K mg base CX k fa fd [x] sp) (bd : ∀ (s : Shared) (u : Value), BindsTo s fd ⟨[u], []⟩ [(x, u)])
    (wish : ∀ H : Hp, Only H → SqL K H a (ns.map V.int) → sp [.ref a] H (fun v _ => v = .bl true) fun _ _ _ => False)
    (none_out : ∀ H e s', CX [] H s1 (fun _ _ _ => False) e s' → False) :
    codeAny (model P w) callerA (.call (.ref fa) ⟨[.ref a], []⟩) (fun r s' => r = .ok (.ret (.bool true)) ∧ OldK s1.heap s'.heap ∧ s'.os = s1.os ∧ AllBare s'.gens) s1 := by
  have rv := vals_ints its
  have go : ∀ H : Hp, Only H → SqL K H a (ns.map V.int) → HOk P w H s1.heap → (∀ b u, H b = some u → b = a ∧ K.lookup a = none) →
      codeAny (model P w) callerA (.call (.ref fa) ⟨[.ref a], []⟩) (fun r s' => r = .ok (.ret (.bool true)) ∧ OldK s1.heap s'.heap ∧ s'.os = s1.os ∧ AllBare s'.gens) s1 := by
    intro H only sq ok at_
    have free : ∀ {b : Addr}, (∀ u, H b = some u → False) → H b = none := fun {b} n => by
      cases q : H b with
      | none => rfl
      | some u => exact (n u q).elim
    have ns_ : ∀ {b : Addr} {m : Str → Option Value}, s1.heap.Ns b m → (hidT s1.heap H).Ns b m := fun {b m} ⟨o, es, ep, e, d, r⟩ => ⟨o, es, ep, hidT_get e (free fun u q => by
      obtain ⟨rfl, _⟩ := at_ b u q
      rw [scr] at e
      cases e
      have d' : Data.seq vs.toArray _ = Data.dict es ep := d
      cases d'), d, r⟩
    have kin : K.In (hidT s1.heap H) := fun b o e => hidT_get (hin b o e) (free fun u q => by
      obtain ⟨rfl, z⟩ := at_ b u q
      rw [z] at e
      cases e)
    have e0 : Env0 P w K mg (hidT s1.heap H) callerA [] s1 H :=
      ⟨rfl, ⟨kin, ns_ glob, ⟨mb, ns_ blt, bb⟩, lim.imp fun _ q => ⟨ns_ q.1, q.2⟩⟩, fun b o e => of_hidT e, Nat.le_of_eq (hidT_size _ _), trivial, fun b hb => (List.not_mem_nil hb).elim, ok, .of_eq bare⟩
    refine codeAny_mono ((F _ kin (ns_ glob)).run callerA [] s1 H ⟨[.ref a], []⟩ [.ref a] [.ref a] _ _ room rfl e0 (bd s1 (.ref a)) (.cons rfl .nil) (wish H only sq)) fun r s' out => ?_
    match r, out with
    | .error e, out => exact (none_out H e s' out).elim
    | .ok .next, out => exact out.elim
    | .ok .brk, out => exact out.elim
    | .ok .cont, out => exact out.elim
    | .ok (.ret u), ⟨v, H', os, gens, un, ok', r', q⟩ =>
      have q' : v = V.bl true := q
      subst q'
      obtain rfl : u = Value.bool true := r'
      refine ⟨rfl, OldK.of_keep fun b o e => ?_, os, gens⟩
      cases hb : H b with
      | none => exact un.keep b o e hb List.not_mem_nil List.not_mem_nil
      | some u =>
        rcases only b with z | ⟨ob, xs, z⟩
        · rw [z] at hb
          cases hb
        · have z2 := (ok' b _ (un.frzs b ob _ z)).1
          rw [(ok b _ z).1] at e
          cases e
          exact z2
  cases hk : K.lookup a with
  | some o =>
    have e := hin a o hk
    rw [scr] at e
    cases e
    exact go (fun _ => none) (fun _ => .inl rfl) (.inr ⟨_, vs.toArray, _, hk, rfl, rfl, rfl, by rw [List.size_toArray, its.length]; exact few, by simpa using rv⟩) (fun b u z => nomatch (show (none : Option HO) = some u from z)) fun b u z => nomatch (show (none : Option HO) = some u from z)
  | none =>
    have at_a : ∀ b u, (if b = a then some (HO.frz { cls := .type "list", data := .seq vs.toArray } (.lst (ns.map V.int))) else none) = some u → b = a ∧ u = HO.frz { cls := .type "list", data := .seq vs.toArray } (.lst (ns.map V.int)) := fun b u z => by
      split at z
      · exact ⟨by assumption, (Option.some.inj z).symm⟩
      · cases z
    refine go (fun b => if b = a then some (.frz { cls := .type "list", data := .seq vs.toArray } (.lst (ns.map V.int))) else none) (fun b => ?_) (.inl (.inr ⟨_, if_pos rfl⟩)) (fun b u z => ?_) fun b u z => ⟨(at_a b u z).1, hk⟩
    · by_cases hb : b = a
      · exact .inr ⟨_, _, if_pos hb⟩
      · exact .inl (if_neg hb)
    · obtain ⟨rfl, rfl⟩ := at_a b u z
      exact ⟨scr, by rw [List.length_map]; exact few, vs, _, rv, scr⟩
end
theorem walkG {l : PySem.W.OpenLaw} {n k : Nat} {q : Program} {loose : List Str} {XP : (Str → Option Value) → Heap → Prop} {YP : World → Heap → Prop} {d : DefRec} {K : Params → PySem.W.Frag} {CX : World → CXT} {sp : World → Sp} {x : Str}
    (hn : l.most = some n) (hn2 : n ≤ sizeLine) (hdf : d.params.defaults = []) (hr : Room k callerA)
    (hY : ∀ (w : World) (h : Heap), YP w h → (K w.params).In h)
    (F : ∀ (w : World) (mg : Str → Option Value) (fa : Addr) (h : Heap), (K w.params).In h → h.Ns mainGlobals mg → mg d.name = some (.ref fa) →
      ∃ fd : FuncData, (∀ (s : Shared) (u : Value), BindsTo s fd ⟨[u], []⟩ [(x, u)]) ∧
        ∀ base : Heap, (K w.params).In base → base.Ns mainGlobals mg → FnG l.prog w (K w.params) mg base (CX w) k fa fd [x] (sp w))
    (hsp : ∀ (w : World) (H : Hp) (a : Addr) (ns : List Int), ns.length ≤ n → (∀ z ∈ ns, Builtin.Int.intBits z ≤ 1048576) → Only H → SqL (K w.params) H a (ns.map V.int) → sp w [.ref a] H (fun v _ => v = .bl true) fun _ _ _ => False)
    (hCX : ∀ (w : World) (H : Hp) (s : Shared) (e : Value) (s' : Shared), CX w [] H s (fun _ _ _ => False) e s' → False) :
    PySem.W.WalkO q loose XP YP l.row.toRowW d [] (fun f vs => PySem.call f vs) := by
  refine Att.attach_callB hn hdf fun w s₀ s₁ mg mb fa o pm cd doc a vs ns G Y ho hd hcd hmg hobj hints hlen hbits hg => ?_
  obtain ⟨fd, hb, hF⟩ := F w mg fa _ (hY w _ Y) G.T.g hmg
  exact law_G (hY w _ Y) G.T.g G.T.b G.T.builtins G.T.nolimit hg hobj hints (Nat.le_trans hlen hn2) hr hF hb (fun H hO hS => hsp w H a ns hlen hbits hO hS) fun H e s' => hCX w H s₁ e s'
end Z
set_option maxRecDepth 100000
set_option maxHeartbeats 4000000
namespace Z
open PySem PySem.Spec PyProof.Rows L2
structure Bi (mg : Str → Option Value) : Prop where
  len : mg "len" = none
  max : mg "max" = none
  min : mg "min" = none
  int : mg "int" = none
  str : mg "str" = none
  tuple : mg "tuple" = none
  list : mg "list" = none
  bool : mg "bool" = none
  dict : mg "dict" = none
  set : mg "set" = none
  isinstance : mg "isinstance" = none
  sorted : mg "sorted" = none
  repr : mg "repr" = none
  range : mg "range" = none
  enumerate : mg "enumerate" = none
  zip : mg "zip" = none
  sum : mg "sum" = none
  all : mg "all" = none
  any : mg "any" = none
section
variable {X : Cx} {e : Expr} {es : List Expr} {t : TA} {p pos : Pos}
theorem CallR.or {f : Value} {r r' : List V → Hp → VK → Prop} (h : CallR X f r) (h' : CallR X f r') : CallR X f (fun xs H Q => r xs H Q ∨ r' xs H Q) := by
  intro pins s σ H xs us Q I rv q
  rcases q with q | q
  · exact h pins s σ H xs us Q I rv q
  · exact h' pins s σ H xs us Q I rv q
theorem CallR.box {f : Value} {r r' : List V → Hp → VK → Prop} (h : CallR X f r) (e : ∀ xs H Q, r' xs H Q → r xs H Q) : CallR X f r' := fun pins s σ H xs us Q I rv q => h pins s σ H xs us Q I rv (e _ _ _ q)
structure rLenA (K : PySem.W.Frag) (xs : List V) (H : Hp) (Q : VK) : Prop where
  h : (∃ p ys, xs = [.ref p] ∧ (SqL K H p ys ∨ SqT K H p ys) ∧ Q (.int ys.length) H) ∨ (∃ z, xs = [.str z] ∧ z.length ≤ sizeLine ∧ Q (.int z.length) H) ∨
  (∃ a kvs, xs = [V.ref a] ∧ H a = some (.dK kvs) ∧ Q (.int kvs.length) H)
theorem lenL {K : PySem.W.Frag} {p : Addr} {ys : List V} {H : Hp} {Q : VK} (h : SqL K H p ys) (q : Q (.int ys.length) H) : rLenA K [.ref p] H Q := ⟨.inl ⟨p, ys, rfl, .inl h, q⟩⟩
theorem lenT {K : PySem.W.Frag} {p : Addr} {ys : List V} {H : Hp} {Q : VK} (h : SqT K H p ys) (q : Q (.int ys.length) H) : rLenA K [.ref p] H Q := ⟨.inl ⟨p, ys, rfl, .inr h, q⟩⟩
theorem lenS {K : PySem.W.Frag} {z : Str} {H : Hp} {Q : VK} (h : z.length ≤ sizeLine) (q : Q (.int z.length) H) : rLenA K [.str z] H Q := ⟨.inr (.inl ⟨z, rfl, h, q⟩)⟩
theorem lenD {K : PySem.W.Frag} {a : Addr} {kvs : List (Key × V)} {H : Hp} {Q : VK} (h : H a = some (.dK kvs)) (q : Q (.int kvs.length) H) : rLenA K [.ref a] H Q := ⟨.inr (.inr ⟨a, kvs, rfl, h, q⟩)⟩
theorem cb_len (B : Bi X.mg) (ha : PA X (e :: es) t) (hg : Gl X "len" := by rfl) (he : starEach (e :: es) X.env = (false, eval e X.env) :: starEach es X.env := by rfl) (hpl : (backTo pos (starEach es X.env)).any (·.1) = false := by rfl) :
    PE X (.Call (.Name "len" p) (e :: es) [] pos) (tCB (rLenA X.K) t) := pe_callB (CallR.box (CallR.or call_len_seq (CallR.or call_len_str call_lenD)) fun _ _ _ q => q.h) hg B.len PySem.boot_len ha (he := he) (hpl := hpl)
structure rIntA (xs : List V) (H : Hp) (Q : VK) : Prop where
  h : ((∃ i, xs = [.int i] ∧ Q (.int i) H) ∨ ∃ k, xs = [.bl k] ∧ Q (.int (if k then 1 else 0)) H) ∨ ∃ a n, xs = [.str a] ∧ PySem.intText? a = some n ∧ a.length ≤ 640 ∧ Q (.int n) H
theorem intI {i : Int} {H : Hp} {Q : VK} (q : Q (.int i) H) : rIntA [.int i] H Q := ⟨.inl (.inl ⟨i, rfl, q⟩)⟩
theorem intB {k : Bool} {H : Hp} {Q : VK} (q : Q (.int (if k then 1 else 0)) H) : rIntA [.bl k] H Q := ⟨.inl (.inr ⟨k, rfl, q⟩)⟩
theorem intS {a : Str} {n : Int} {H : Hp} {Q : VK} (h : PySem.intText? a = some n) (hl : a.length ≤ 640) (q : Q (.int n) H) : rIntA [.str a] H Q := ⟨.inr ⟨a, n, rfl, h, hl, q⟩⟩
theorem cb_int (B : Bi X.mg) (ha : PA X (e :: es) t) (hg : Gl X "int" := by rfl) (he : starEach (e :: es) X.env = (false, eval e X.env) :: starEach es X.env := by rfl) (hpl : (backTo pos (starEach es X.env)).any (·.1) = false := by rfl) :
    PE X (.Call (.Name "int" p) (e :: es) [] pos) (tCB rIntA t) := pe_callTy (CallR.box (CallR.or call_int1 call_int_str) fun _ _ _ q => q.h) hg B.int PyProof.Rows.boot_int ha (he := he) (hpl := hpl)
structure rStrA (xs : List V) (H : Hp) (Q : VK) : Prop where
  h : (∃ i, xs = [.int i] ∧ i.natAbs.log2 < 1920 ∧ Q (.str (toString i)) H) ∨ ∃ a, xs = [.str a] ∧ Q (.str a) H
theorem strI {i : Int} {H : Hp} {Q : VK} (h : i.natAbs.log2 < 1920) (q : Q (.str (toString i)) H) : rStrA [.int i] H Q := ⟨.inl ⟨i, rfl, h, q⟩⟩
theorem strS {a : Str} {H : Hp} {Q : VK} (q : Q (.str a) H) : rStrA [.str a] H Q := ⟨.inr ⟨a, rfl, q⟩⟩
theorem cb_str (B : Bi X.mg) (ha : PA X (e :: es) t) (hg : Gl X "str" := by rfl) (he : starEach (e :: es) X.env = (false, eval e X.env) :: starEach es X.env := by rfl) (hpl : (backTo pos (starEach es X.env)).any (·.1) = false := by rfl) :
    PE X (.Call (.Name "str" p) (e :: es) [] pos) (tCB rStrA t) := pe_callTy (CallR.box (CallR.or call_str_int SkE.call_str_str) fun _ _ _ q => q.h) hg B.str PyProof.Rows.boot_str ha (he := he) (hpl := hpl)
structure rTupA (K : PySem.W.Frag) (xs : List V) (H : Hp) (Q : VK) : Prop where
  h : ∃ p ys, xs = [.ref p] ∧ ((SqL K H p ys ∧ ∀ l, H l = none → Q (.ref l) (upd H l (.tup ys))) ∨ (SqT K H p ys ∧ Q (.ref p) H))
theorem tupL {K : PySem.W.Frag} {p : Addr} {ys : List V} {H : Hp} {Q : VK} (h : SqL K H p ys) (q : ∀ l H1, H l = none → Same H H1 → H1 l = some (.tup ys) → Q (.ref l) H1) : rTupA K [.ref p] H Q := ⟨⟨p, ys, rfl, .inl ⟨h, new q⟩⟩⟩
theorem tupT {K : PySem.W.Frag} {p : Addr} {ys : List V} {H : Hp} {Q : VK} (h : SqT K H p ys) (q : Q (.ref p) H) : rTupA K [.ref p] H Q := ⟨⟨p, ys, rfl, .inr ⟨h, q⟩⟩⟩
theorem cb_tuple (B : Bi X.mg) (ha : PA X (e :: es) t) (hg : Gl X "tuple" := by rfl) (he : starEach (e :: es) X.env = (false, eval e X.env) :: starEach es X.env := by rfl) (hpl : (backTo pos (starEach es X.env)).any (·.1) = false := by rfl) :
    PE X (.Call (.Name "tuple" p) (e :: es) [] pos) (tCB (rTupA X.K) t) := pe_callTy (CallR.box call_tuple_of fun _ _ _ q => q.h) hg B.tuple PyProof.Rows.boot_tuple ha (he := he) (hpl := hpl)
structure rListA (K : PySem.W.Frag) (xs : List V) (H : Hp) (Q : VK) : Prop where
  h : ∃ p ys, xs = [.ref p] ∧ (SqL K H p ys ∨ SqT K H p ys) ∧ ∀ l, H l = none → Q (.ref l) (upd H l (.lst ys))
theorem listL {K : PySem.W.Frag} {p : Addr} {ys : List V} {H : Hp} {Q : VK} (h : SqL K H p ys ∨ SqT K H p ys) (q : ∀ l H1, H l = none → Same H H1 → H1 l = some (.lst ys) → Q (.ref l) H1) : rListA K [.ref p] H Q := ⟨⟨p, ys, rfl, h, new q⟩⟩
theorem cb_list (B : Bi X.mg) (ha : PA X (e :: es) t) (hg : Gl X "list" := by rfl) (he : starEach (e :: es) X.env = (false, eval e X.env) :: starEach es X.env := by rfl) (hpl : (backTo pos (starEach es X.env)).any (·.1) = false := by rfl) :
    PE X (.Call (.Name "list" p) (e :: es) [] pos) (tCB (rListA X.K) t) := pe_callTy (CallR.box call_list_of fun _ _ _ q => q.h) hg B.list PyProof.Rows.boot_list ha (he := he) (hpl := hpl)
structure rMaxA (K : PySem.W.Frag) (xs : List V) (H : Hp) (Q : VK) : Prop where
  h : (∃ i j, xs = [.int i, .int j] ∧ Q (.int (if j > i then j else i)) H) ∨ rMax K xs H Q
theorem max2 {K : PySem.W.Frag} {i j : Int} {H : Hp} {Q : VK} (q : Q (.int (if j > i then j else i)) H) : rMaxA K [.int i, .int j] H Q := ⟨.inl ⟨i, j, rfl, q⟩⟩
theorem cb_max (B : Bi X.mg) (ha : PA X (e :: es) t) (hc : X.calm = true := by rfl) (hg : Gl X "max" := by rfl) (he : starEach (e :: es) X.env = (false, eval e X.env) :: starEach es X.env := by rfl) (hpl : (backTo pos (starEach es X.env)).any (·.1) = false := by rfl) :
    PE X (.Call (.Name "max" p) (e :: es) [] pos) (tCB (rMaxA X.K) t) := pe_callB (CallR.box (CallR.or (call_max2 hc) (cr_max hc)) fun _ _ _ q => q.h) hg B.max PyProof.Rows.boot_max ha (he := he) (hpl := hpl)
structure rMinA (K : PySem.W.Frag) (xs : List V) (H : Hp) (Q : VK) : Prop where
  h : (∃ i j, xs = [.int i, .int j] ∧ Q (.int (if j < i then j else i)) H) ∨ rMin K xs H Q
theorem min2 {K : PySem.W.Frag} {i j : Int} {H : Hp} {Q : VK} (q : Q (.int (if j < i then j else i)) H) : rMinA K [.int i, .int j] H Q := ⟨.inl ⟨i, j, rfl, q⟩⟩
theorem boot_min_ : bootBuiltins "min" = some (.builtin "min") := by decide +kernel
theorem cb_min (B : Bi X.mg) (ha : PA X (e :: es) t) (hc : X.calm = true := by rfl) (hg : Gl X "min" := by rfl) (he : starEach (e :: es) X.env = (false, eval e X.env) :: starEach es X.env := by rfl) (hpl : (backTo pos (starEach es X.env)).any (·.1) = false := by rfl) :
    PE X (.Call (.Name "min" p) (e :: es) [] pos) (tCB (rMinA X.K) t) := pe_callB (CallR.box (CallR.or (call_min2 hc) (cr_min hc)) fun _ _ _ q => q.h) hg B.min boot_min_ ha (he := he) (hpl := hpl)
theorem boot_isi : bootBuiltins "isinstance" = some (.builtin "isinstance") := by decide +kernel
theorem cb_isi (B : Bi X.mg) (ha : PA X (e :: es) t) (hg : Gl X "isinstance" := by rfl) (he : starEach (e :: es) X.env = (false, eval e X.env) :: starEach es X.env := by rfl) (hpl : (backTo pos (starEach es X.env)).any (·.1) = false := by rfl) :
    PE X (.Call (.Name "isinstance" p) (e :: es) [] pos) (tCB (fun xs H Q => rIsi X.K xs H Q ∨ rIsiT X.K xs H Q) t) := pe_callB (CallR.or call_isi call_isiT) hg B.isinstance boot_isi ha (he := he) (hpl := hpl)
theorem isiTy {K : PySem.W.Frag} {x : V} {a b : String} {r : Bool} {H : Hp} {Q : VK} (h : TyX K H x (.type a)) (k : kitB a b = some r) (q : Q (.bl r) H) : rIsi K [x, .ty b] H Q ∨ rIsiT K [x, .ty b] H Q := .inl ⟨x, .ty b, .type a, .type b, r, rfl, .ty b, h, kit_ty k, q⟩
theorem isiOwn {K : PySem.W.Frag} {x : V} {t : Value} {C : Addr} {r : Bool} {H : Hp} {Q : VK} (h : TyX K H x t) (k : PySem.W.kitOne K t (.ref C) = some r) (q : Q (.bl r) H) : rIsi K [x, .ref C] H Q ∨ rIsiT K [x, .ref C] H Q := .inl ⟨x, .ref C, t, .ref C, r, rfl, .own C, h, k, q⟩
theorem gl_ty {x : Str} {n : String} (hg : Gl X x) (hm : X.mg x = none) (hv : bootBuiltins x = some (.type n)) (hn : x ≠ "__name__" := by decide) (hd : (x == ("__debug__" : Str)) = false := by decide) : PE X (.Name x p) (tC (.ty n)) := pe_bltn hg hm hv rfl hn hd
end
mutual
theorem dp_plain {K : PySem.W.Frag} {H : Hp} : ∀ {v : V} {d : PyData}, Dp K H v d → d.hasDict = false
  | _, _, .non => by simp only [PyData.hasDict]
  | _, _, .bl b => by simp only [PyData.hasDict]
  | _, _, .int i => by simp only [PyData.hasDict]
  | _, _, .str x => by simp only [PyData.hasDict]
  | _, _, .lst _ a => by simp only [PyData.hasDict]; exact dpAll_plain a
  | _, _, .tup _ a => by simp only [PyData.hasDict]; exact dpAll_plain a
theorem dpAll_plain {K : PySem.W.Frag} {H : Hp} : ∀ {vs : List V} {ds : List PyData}, DpAll K H vs ds → PyData.hasDictAll ds = false
  | _, _, .nil => by simp only [PyData.hasDictAll]
  | _, _, .cons h a => by simp only [PyData.hasDictAll, dp_plain h, dpAll_plain a, Bool.or_self]
end
section
variable {X : Cx} {e : Expr} {es : List Expr} {t : TA} {p pos : Pos}
structure rRepr (K : PySem.W.Frag) (xs : List V) (H : Hp) (Q : VK) : Prop where
  h : (∃ x d, xs = [x] ∧ Dp K H x d ∧ d.showable = true ∧ d.depth ≤ 60 ∧ d.shown.length ≤ sizeLine ∧ Q (.str d.shown) H) ∨ ∃ a, xs = [.ref a] ∧ H a = some (.dK []) ∧ Q (.str (PyData.dict []).shown) H
theorem reprD {K : PySem.W.Frag} {x : V} {d : PyData} {H : Hp} {Q : VK} (h : Dp K H x d) (h1 : d.showable = true) (h2 : d.depth ≤ 60) (h3 : d.shown.length ≤ sizeLine) (q : Q (.str d.shown) H) : rRepr K [x] H Q := ⟨.inl ⟨x, d, rfl, h, h1, h2, h3, q⟩⟩
theorem repr0 {K : PySem.W.Frag} {a : Addr} {H : Hp} {Q : VK} (h : H a = some (.dK [])) (q : Q (.str (PyData.dict []).shown) H) : rRepr K [.ref a] H Q := ⟨.inr ⟨a, rfl, h, q⟩⟩
theorem dict0_reads {X : Cx} {pins : List (Addr × Obj)} {σ : L2.St} {H : Hp} {s : Shared} {a : Addr} (I : Inv X pins σ H s) (h : H a = some (.dK [])) : Reads s.heap (.ref a) (.dict []) [a] ∧ (a == sysModules) = false := by
  obtain ⟨_, ns, vs, kv, hd⟩ : [].length ≤ sizeLine ∧ (a == sysModules) = false ∧ ∃ vs, KV ([] : List (Key × V)) vs ∧ s.heap.DictOf (mixKind X.prog X.w) a vs := I.hok a _ h
  cases kv
  obtain ⟨o, es, ep, ho, ed, de, _, pr, _⟩ := hd
  have e0 : es.toList = [] := by
    generalize es.toList = l at pr
    cases pr
    rfl
  have z1 : ReadsAll s.heap (es.toList.map (·.key)) [] [] := by rw [e0]; exact .nil
  have z2 : ReadsAll s.heap (es.toList.map (·.val)) [] [] := by rw [e0]; exact .nil
  exact ⟨Reads.dict (kvs := []) ho ed.1 de z1 z2, ns⟩
theorem call_repr {X : Cx} (gu : X.A.guards = some []) (hu : X.A.units + 64 < cLine) : CallR X (.builtin "repr") (rRepr X.K) := by
  intro pins s σ H xs us Q I r h
  rcases h.h with ⟨x, d, rfl, hd, sh, dp, sz, q⟩ | ⟨a, rfl, ha, q⟩
  rotate_left
  · obtain ⟨u, rfl, rx⟩ := vals1 r
    cases (show u = Value.ref a from rx)
    obtain ⟨rd, ns⟩ := dict0_reads I ha
    have dp : (PyData.dict []).depth = 1 := by simp [PyData.depth, PyData.depthKv]
    refine repr_of_reads' (h₀ := s.heap) rd (by simp [PyData.showable, PyData.showableKv]) (fun _ hm => ?_) gu (by rw [dp]; omega) (fun _ _ e => e) (fun h' w tk k => ⟨.str _, H, I.kept k, ⟨_, rfl⟩, q⟩) (by simp only [PyData.shown, PyData.shownKv]; decide +kernel)
    rw [List.mem_singleton] at hm
    rw [hm] at ns
    simp at ns
  obtain ⟨u, rfl, rx⟩ := vals1 r
  cases hd with
  | non =>
    cases (show u = Value.none from rx)
    refine PySem.P.repr_of_none ⟨.str _, H, I.tok _, ⟨_, rfl⟩, ?_⟩
    simpa only [PyData.shown] using q
  | bl b =>
    cases (show u = Value.bool b from rx)
    refine PySem.P.repr_of_bool ⟨.str _, H, I.tok _, ⟨_, rfl⟩, ?_⟩
    simpa only [PyData.shown] using q
  | int i =>
    obtain ⟨tk, rfl⟩ := (show ∃ t, u = Value.int i t from rx)
    refine PySem.P.repr_of_int (by simpa [PyData.showable] using sh) ⟨.str _, H, I.tok _, ⟨_, rfl⟩, ?_⟩
    simpa only [PyData.shown] using q
  | str y =>
    obtain ⟨tk, rfl⟩ := (show ∃ t, u = Value.str y t from rx)
    refine PySem.P.repr_of_str ⟨.str _, H, I.tok _, ⟨_, rfl⟩, ?_⟩ (by simpa only [PyData.shown] using sz)
    simpa only [PyData.shown] using q
  | @lst a ys ds hl ha =>
    cases (show u = Value.ref a from rx)
    obtain ⟨as, rd⟩ := Dp.reads I (.list ds) (.ref a) (.ref a) (.lst hl ha) rfl
    exact repr_of_reads' (h₀ := s.heap) rd sh (PyData.noDict_hsm (dp_plain (K := X.K) (H := H) (.lst hl ha))) gu (by omega) (fun _ _ e => e) (fun h' w tk k => ⟨.str _, H, I.kept k, ⟨_, rfl⟩, q⟩) sz
  | @tup a ys ds hl ha =>
    cases (show u = Value.ref a from rx)
    obtain ⟨as, rd⟩ := Dp.reads I (.tuple ds) (.ref a) (.ref a) (.tup hl ha) rfl
    exact repr_of_reads' (h₀ := s.heap) rd sh (PyData.noDict_hsm (dp_plain (K := X.K) (H := H) (.tup hl ha))) gu (by omega) (fun _ _ e => e) (fun h' w tk k => ⟨.str _, H, I.kept k, ⟨_, rfl⟩, q⟩) sz
theorem cb_repr (B : Bi X.mg) (gu : X.A.guards = some []) (hu : X.A.units + 64 < cLine) (ha : PA X (e :: es) t) (hg : Gl X "repr" := by rfl) (he : starEach (e :: es) X.env = (false, eval e X.env) :: starEach es X.env := by rfl) (hpl : (backTo pos (starEach es X.env)).any (·.1) = false := by rfl) :
    PE X (.Call (.Name "repr" p) (e :: es) [] pos) (tCB (rRepr X.K) t) := pe_callB (call_repr gu hu) hg B.repr PyProof.Rows.boot_repr ha (he := he) (hpl := hpl)
end
end Z
set_option maxRecDepth 100000
set_option maxHeartbeats 4000000
namespace Z
open PySem PySem.Spec PyProof.Rows L2
open PySem.W PySem.Calls PySem.HandSPX
def xiA (f : Str) (p1 p2 : Pos) : Arguments := { posonlyargs := [], args := [{ arg := "self", annotation := none, pos := p1 }, { arg := f, annotation := none, pos := p2 }], vararg := none, kwonlyargs := [], kw_defaults := [], kwarg := none, defaults := [] }
def xiB (f m : Str) (j : Nat) (p0 p1 p2 p3 p4 p5 q1 q2 q3 q4 : Pos) : List Stmt :=
  [.Expr (.Call (.Attribute (.Call (.Name "super" p0) [] [] p1) "__init__" p2) [.Constant (.str m) j p3] [] p4) p5, .Assign [.Attribute (.Name "self" q1) f q2] (.Name f q3) q4]
def xiS (f : Str) : Scope := { kind := .function, names := [("self", .local), (f, .local), ("__class__", .free), ("super", .globalImplicit)], isGenerator := false, isCoroutine := false, more := [] }
def IsInit (f qual : Str) (fd : FuncData) : Prop := ∃ (kV doc pm cdv ct : Value) (an : Option Addr) (cc : Addr) (m : Str) (j : Nat) (p1 p2 q0 q1 q2 q3 q4 q5 r1 r2 r3 r4 : Pos),
  fd = fnX "__init__" qual (xiA f p1 p2) (xiB f m j q0 q1 q2 q3 q4 q5 r1 r2 r3 r4) (xiS f) [("__class__", cc)] .none kV doc pm an cdv ct
structure Tied (prog : Program) (K : Frag) (mg : Str → Option Value) (x f qual : Str) (C fI : Addr) : Prop where
  gC : mg x = some (.ref C)
  cls : ∃ nm q N bs bm sn sub ab col dd k0 k1 k2 k3 k5, K.lookup C = some (excClassObj nm q C N bs bm true sn sub ab col dd k0 k1 k2 k3 k5 "ValueError.__new__") ∧ refsVE bm = true
  sa : findIn K (.ref C) "__setattr__" = some (some (.builtin "object.__setattr__"))
  noN : findIn K (.ref C) f = some none
  iC : findIn K (.ref C) "__init__" = some (some (.ref fI))
  tC : typeIn K (.ref fI) = some (.type "function")
  kC : keepIn K (.ref C) = true
  exC : subIn K (.ref C) (.type "BaseException") = some true
  isV : subIn K (.ref C) (.type "ValueError") = some true
  tyC : typeIn K (.ref C) = some (.type "type")
  xf : XfC K C
  fn : ∃ (oc : Value) (od : Option Addr) (kV doc pm : Value) (an : Option Addr) (cda cc : Addr) (ct : Value) (osl : Array (Option Value)) (m : Str) (j : Nat) (p1 p2 q0 q1 q2 q3 q4 q5 r1 r2 r3 r4 : Pos) (ccl : Value) (cdd : Option Addr) (vs : Array Value) (ccs : Array (Option Value)) (file : Str) (tf : Tok) (cl : Value) (cld : Option Addr) (csl : Array (Option Value)),
    K.lookup fI = some ⟨oc, od, .func (fnX "__init__" qual (xiA f p1 p2) (xiB f m j q0 q1 q2 q3 q4 q5 r1 r2 r3 r4) (xiS f) [("__class__", cc)] .none kV doc pm an (.ref cda) ct), osl⟩ ∧ codeIn K (.ref cda) qual = true ∧
    K.lookup cda = some ⟨ccl, cdd, .fields vs, ccs⟩ ∧ vs[2]? = some (.str file tf) ∧ ((prog.main.file : Str) == file) = true ∧ (q2.endLine == q4.line) = true ∧ K.lookup cc = some ⟨cl, cld, .cell (some (.ref C)), csl⟩
  sup : mg "super" = none
  top : (prog.main.scope.names.lookup ("super" : Str)).isSome = false
  self : mroIn K C (.ref C) = some true
  up : ks_superIn K C C "__init__" = some (some (.builtin "ValueError.__init__"))
  opq : nsIn K cStatics "thirdparty.any" = some none
  nf : f ≠ "self"
  nsup : f ≠ "super"
  ncls : f ≠ "__class__"
  ndb : f ≠ "__debug__"
  bd : ∀ (fd : FuncData) (a v : Value), IsInit f qual fd → bindArgs fd ⟨[a, v], []⟩ = pure ([("self", a), (f, v)] : List (Str × Value))
theorem bd_value {qual : Str} (fd : FuncData) (a v : Value) (h : IsInit "value" qual fd) : bindArgs fd ⟨[a, v], []⟩ = pure ([("self", a), ("value", v)] : List (Str × Value)) := by
  obtain ⟨kV, doc, pm, cdv, ct, an, cc, m, j, p1, p2, q0, q1, q2, q3, q4, q5, r1, r2, r3, r4, rfl⟩ := h
  with_unfolding_all rfl
theorem bd_part {qual : Str} (fd : FuncData) (a v : Value) (h : IsInit "part" qual fd) : bindArgs fd ⟨[a, v], []⟩ = pure ([("self", a), ("part", v)] : List (Str × Value)) := by
  obtain ⟨kV, doc, pm, cdv, ct, an, cc, m, j, p1, p2, q0, q1, q2, q3, q4, q5, r1, r2, r3, r4, rfl⟩ := h
  with_unfolding_all rfl
theorem bd_index {qual : Str} (fd : FuncData) (a v : Value) (h : IsInit "index" qual fd) : bindArgs fd ⟨[a, v], []⟩ = pure ([("self", a), ("index", v)] : List (Str × Value)) := by
  obtain ⟨kV, doc, pm, cdv, ct, an, cc, m, j, p1, p2, q0, q1, q2, q3, q4, q5, r1, r2, r3, r4, rfl⟩ := h
  with_unfolding_all rfl
theorem bd_many {qual : Str} (fd : FuncData) (a v : Value) (h : IsInit "many" qual fd) : bindArgs fd ⟨[a, v], []⟩ = pure ([("self", a), ("many", v)] : List (Str × Value)) := by
  obtain ⟨kV, doc, pm, cdv, ct, an, cc, m, j, p1, p2, q0, q1, q2, q3, q4, q5, r1, r2, r3, r4, rfl⟩ := h
  with_unfolding_all rfl
theorem bd_line {qual : Str} (fd : FuncData) (a v : Value) (h : IsInit "line" qual fd) : bindArgs fd ⟨[a, v], []⟩ = pure ([("self", a), ("line", v)] : List (Str × Value)) := by
  obtain ⟨kV, doc, pm, cdv, ct, an, cc, m, j, p1, p2, q0, q1, q2, q3, q4, q5, r1, r2, r3, r4, rfl⟩ := h
  with_unfolding_all rfl
theorem bd_most {qual : Str} (fd : FuncData) (a v : Value) (h : IsInit "most" qual fd) : bindArgs fd ⟨[a, v], []⟩ = pure ([("self", a), ("most", v)] : List (Str × Value)) := by
  obtain ⟨kV, doc, pm, cdv, ct, an, cc, m, j, p1, p2, q0, q1, q2, q3, q4, q5, r1, r2, r3, r4, rfl⟩ := h
  with_unfolding_all rfl
theorem bd_who {qual : Str} (fd : FuncData) (a v : Value) (h : IsInit "who" qual fd) : bindArgs fd ⟨[a, v], []⟩ = pure ([("self", a), ("who", v)] : List (Str × Value)) := by
  obtain ⟨kV, doc, pm, cdv, ct, an, cc, m, j, p1, p2, q0, q1, q2, q3, q4, q5, r1, r2, r3, r4, rfl⟩ := h
  with_unfolding_all rfl
theorem one_sz (v : Value) : [v].length ≤ sizeLine := by
  rw [sizeLine_eq]
  exact (by decide : 1 ≤ 16777216)
theorem boot_super_ : bootBuiltins "super" = some (.type "super") := by decide +kernel
theorem eqs_ne {a b : Str} (h : a ≠ b) : (b == a) = false := by
  rw [beq_eq_false_iff_ne]
  exact fun e => h e.symm
section
variable {prog : Program} {w : World} {A : Around} {E : Value → Shared → Prop} {R : Result → Shared → Prop} {s : Shared} {K : Frag} {mg mb : Str → Option Value} {x f qual : Str} {C fI : Addr}
theorem xiS_f (h1 : f ≠ "self") : (xiS f).names.lookup f = some .local := by
  unfold xiS
  simp [List.lookup, beq_eq_false_iff_ne.mpr h1]
theorem xiS_self : (xiS f).names.lookup ("self" : Str) = some .local := rfl
theorem xiS_cls (h2 : f ≠ "__class__") : (xiS f).names.lookup ("__class__" : Str) = some .free := by
  unfold xiS
  have a : (("__class__" : Str) == f) = false := eqs_ne h2
  have b : (("__class__" : Str) == ("self" : Str)) = false := by decide
  simp [List.lookup, a, b]
theorem xiS_super (h2 : f ≠ "super") : (xiS f).names.lookup ("super" : Str) = some .globalImplicit := by
  unfold xiS
  have a : (("super" : Str) == f) = false := eqs_ne h2
  have b : (("super" : Str) == ("self" : Str)) = false := by decide
  have c : (("super" : Str) == ("__class__" : Str)) = false := by decide
  simp [List.lookup, a, b, c]
theorem call_tree {o : Expr} {name : Str} {apos pos : Pos} {e : Expr} {env : Env} (h : (apos.endLine == pos.line) = true) (hs : starEach [e] env = (false, eval e env) :: starEach [] env) :
    eval (.Call (.Attribute o name apos) [e] [] pos) env = (do
        let ov ← attributeBase o name env (eval o env)
        standAt apos.atName
        let (f, first) ← holding [ov] (getMethod ov name (do return (← importBound o env).getD true))
        callWith pos f first (backTo pos (starEach [e] env)) []) := by
  show (attributeBase o name env (eval o env) >>= fun ov => standAt apos.atName >>= fun _ => methodCall o name apos pos env ov 1 (backTo pos (starEach [e] env)) (backToKw pos (keywordEach [] env))) = _
  rw [hs]
  unfold methodCall methodCallPos
  have hf : methodCallForm 1 (backTo pos ((false, eval e env) :: starEach [] env)) (backToKw pos (keywordEach [] env)) = true := by rfl
  rw [hf]
  simp only [h, calleeOf, Bool.not_true, Bool.false_or, if_true, pure_bind]
  rfl
theorem tied_up {h : Heap} {g : Array GenState} {d : Drawn} {t : Nat} {os : OsState} {nm q : Str} {N u e t0 : Addr} {bs bm : List Value} {hdct : Bool} {sn : List Str} {sub : List Value} {ab : Bool} {col : Option Bool} {dd : Option Addr} {k0 k1 k2 k3 k5 : Option Value} {B newId initId : String} {bmB : List Value} (FB : ExcBaseFacts B newId initId bmB)
    {rest : List Value} {Q : Value → Shared → Prop}
    (hC : h.get? C = some (excClassObj nm q C N bs bm hdct sn sub ab col dd k0 k1 k2 k3 k5 newId)) (he : h.get? e = some (excO C t0)) (hu : h.get? u = some (kxs_mw initId e)) (hz : rest.length ≤ sizeLine)
    (hq : ∀ h' t1, (∀ b o, b ≠ e → h.get? b = some o → h'.get? b = some o) → h'.get? e = some (excO C t1) → Q .none ⟨h', g, d, t, os⟩) :
    wpAny (model prog w) A (call (.ref u) rest) Q E ⟨h, g, d, t, os⟩ := by
  refine wpAny_call (codeAny_of_tree ?_)
  show wpAny _ A.in1 (callAny (.ref u) ⟨rest, []⟩) _ _ _
  simp only [callAny]
  refine wpAny_bind (wpAny_load hu ?_)
  simp only [kxs_mw, show (Value.type "method-wrapper" == Value.type "method" || Value.type "method-wrapper" == Value.type "builtin_function_or_method" || Value.type "method-wrapper" == Value.type "method-wrapper") = true by decide, if_true]
  refine KFB.if_so (by decide) ?_
  refine wpAny_bind (check_bound_init FB.toExcCallFacts hC he rfl ?_)
  refine wpAny_bind (wpAny_pure (wpAny_pure ?_))
  refine ⟨plainId_quiet FB.init.plain _, codeAny_builtin FB.initEntry ?_⟩
  exact exc_init_tree (cls := .ref C) (t0 := t0) (dv := none) (c2 := .none) (c3 := .none) (b4 := .bool false) he hz fun h' k e' _ => hq h' h.objs.size k e'
theorem tied_init (T : Tied prog K mg x f qual C fI) {e t0 : Addr} {v : Value} {args : Args} (X : K.In s.heap) (hlim : s.heap.NoLimit) (glob : s.heap.Ns mainGlobals mg) (blt : s.heap.Ns builtinsNs mb) (bb : ∀ y : Str, y ≠ "__name__" → mb y = bootBuiltins y)
    (he : s.heap.get? e = some (excO C t0)) (hnx : K.lookup e = none) (hroom : A.depth < recursionLimit) (hb : ∀ fd, IsInit f qual fd → BindsTo s fd args [("self", .ref e), (f, v)])
    (hq : ∀ h' tk dx t1, (∀ b o, b ≠ e → s.heap.get? b = some o → h'.get? b = some o) → h'.get? e = some { cls := .ref C, dict := some dx, data := .fields #[.ref t1, .none, .none, .none, .bool false, .none] } → s.heap.objs.size ≤ dx → dx ≠ e →
      h'.Ns1 dx (fun y => if y = f then some v else none) → R (.ok (.ret .none)) { s with heap := h', toks := tk }) :
    codeAny (model prog w) A (.call (.ref fI) args) R s := by
  obtain ⟨oc, od, kV, doc, pm, an, cda, cc, ct, osl, m, j, p1, p2, q0, q1, q2, q3, q4, q5, r1, r2, r3, r4, ccl, cdd, vs, ccs, file, tf, cl, cld, csl, lk, code, lkc, hvs, hfile, hline, lcell⟩ := T.fn
  obtain ⟨nm, q, N, bs, bm, sn, sub, ab, col, dd, k0, k1, k2, k3, k5, hC, hbm⟩ := T.cls
  have hcl : clsIn K C = some { name := nm, bases := bs, mro := .ref C :: bm, ns := N, qualname := q, hasDict := true, slotNames := sn, subclasses := sub, abstract := ab, collection := col, hasDel := false } := by unfold clsIn; rw [hC] <;> rfl
  have lsf := xiS_f (f := f) T.nf
  have lcs := xiS_cls (f := f) T.ncls
  have lsu := xiS_super (f := f) T.nsup
  refine ks_codeAny_call_defAt (fd := fnX "__init__" qual (xiA f p1 p2) (xiB f m j q0 q1 q2 q3 q4 q5 r1 r2 r3 r4) (xiS f) [("__class__", cc)] .none kV doc pm an (.ref cda) ct) (body := xiB f m j q0 q1 q2 q3 q4 q5 r1 r2 r3 r4) (binds := [("self", .ref e), (f, v)])
    hroom (X _ _ lk) rfl hlim (codeRec_of X code) rfl (hb _ ⟨kV, doc, pm, .ref cda, ct, an, cc, m, j, p1, p2, q0, q1, q2, q3, q4, q5, r1, r2, r3, r4, rfl⟩) (fun y hy => ?_) (fun y hy => ?_) (fun h1 hns kk => ?_) rfl rfl rfl
  · simp only [xiS, List.mem_cons, List.not_mem_nil, or_false] at hy
    rcases hy with rfl | rfl | rfl | rfl <;> (intro z; cases z)
  · simp only [List.mem_cons, List.not_mem_nil, or_false] at hy
    rcases hy with rfl | rfl
    · exact rfl
    · exact lsf
  have X1 : K.In h1 := X.keeps kk
  have he1 := kk _ _ he
  have hself : ([(("self" : Str), Value.ref e), (f, v)].reverse).lookup ("self" : Str) = some (.ref e) := by
    simp [List.lookup, eqs_ne T.nf]
  have hval : ([(("self" : Str), Value.ref e), (f, v)].reverse).lookup f = some v := by
    simp [List.lookup]
  generalize hm : (fun y => ([(("self" : Str), Value.ref e), (f, v)].reverse).lookup y) = m0 at hns
  have e1 : m0 ("self" : Str) = some (.ref e) := by rw [← hm]; exact hself
  have e2 : m0 f = some v := by rw [← hm]; exact hval
  have hlt := hns.lt
  have hLe : s.heap.objs.size ≠ e := Nat.ne_of_gt (Heap.lt_size he)
  refine ks_wpAt_execs_cons (ks_wpAt_Expr_any (ks_wpAt_MethodCall ?h1 (call_tree hline rfl)) rfl rfl)
  case h1 =>
    refine ks_wpAt_super_base (env := callEnv (fnX "__init__" qual (xiA f p1 p2) (xiB f m j q0 q1 q2 q3 q4 q5 r1 r2 r3 r4) (xiS f) [("__class__", cc)] .none kV doc pm an (.ref cda) ct) s.heap.objs.size fI) lsu lcs rfl rfl (X1 _ _ lk) rfl rfl rfl (X1 _ _ lkc) rfl hvs hfile T.top ?_
    refine ks_loadName_global rfl lsu (loadGlobal_builtin (glob.keeps kk) T.sup (blt.keeps kk) ((bb _ (by decide)).trans boot_super_) ⟨rfl, ?_⟩)
    refine wpAny_loadName_free rfl lcs rfl ⟨_, X1 _ _ lcell, rfl⟩ ?_
    refine wpAny_loadName_local rfl xiS_self hns e1 ?_
    refine ks_wpAny_isType_cls (X1 _ _ hC) rfl ⟨rfl, ?_⟩
    refine ks_wpAny_call_super (X1 _ _ hC) rfl he1 rfl (fun c z => by cases z) (looks_mroIn X1 T.self) (fun h2 hso k2 => ?_)
    have X2 : K.In h2 := X1.keeps k2
    have hxC : e ≠ C := fun z => by
      rw [z] at hnx
      rw [hnx] at hC
      cases hC
    have I2 : InstAt h2 e (excO C t0) C none := ⟨k2 _ _ he1, rfl, rfl, trivial⟩
    have hup := T.up
    unfold ks_superIn at hup
    rw [hcl] at hup
    refine kxs_getMethod kxs_ValueError hso (looks_opaque X2 T.opq) (l₀ := .ref C :: bm) ?_ rfl X2 hup (I2.type.andThen (looks_subIn X2 T.isV)) hxC (by decide) ?_
    · exact fun A Q E s k q => wpAny_bind ((looks_clsIn X2 hcl) A _ E s k (wpAny_pure q))
    refine kxs_callWith (i := "ValueError.__init__") (x := e) rfl (evalArgs_plain (Calls.spliced_cons (Calls.Constant_str (k := j) (pos := q3) (Calls.spliced_nil ⟨Heap.get?_push_at rfl rfl, ?_⟩))))
    refine tied_up (C := C) PySem.F.excBase_ValueError (Heap.get?_push_of_some _ (X2 _ _ hC)) (Heap.get?_push_of_some _ I2.at_) (Heap.get?_push_at rfl rfl) (one_sz _) fun h3 t1 k3 he3 => ?_
    have k23 : ∀ b o, b ≠ e → h2.get? b = some o → h3.get? b = some o := fun b o hb z => k3 b o hb (Heap.get?_push_of_some _ z)
    have k13 : ∀ b o, b ≠ e → h1.get? b = some o → h3.get? b = some o := fun b o hb z => k23 b o hb (k2 b o z)
    have X3 : K.In h3 := fun b o z => k13 b o (fun y => by rw [y, hnx] at z; cases z) (X1 _ _ z)
    have hns3 : h3.Ns s.heap.objs.size m0 := by
      obtain ⟨oL, es, ep, hL, r⟩ := hns
      exact ⟨oL, es, ep, k13 _ _ hLe hL, r⟩
    show PySem.wpAt _ _ _ (execs _ _) _ _ _
    refine ks_wpAt_execs_cons (ks_wpAt_Assign_Attr ?_ rfl)
    refine wpAt_of_wpAny (wpAny_Name (wpAny_loadName_local rfl lsf hns3 e2 ?_) (eqs_ne T.ndb.symm))
    refine wpAny_Name (wpAny_loadName_local rfl xiS_self hns3 e1 ?_) (by decide)
    refine set_plain X3 (ox := excO C t1) (od := none) ⟨he3, rfl, rfl, trivial⟩ T.sa ?_
    refine exc_osa X3 he3 hcl (show refsVE (.ref C :: bm) = true from hbm) rfl T.noN (fun h4 tk4 dx k4 dn dne he4 hn4 => ?_)
    show PySem.wpAt _ _ _ (execs _ _) _ _ _
    refine wpAt_of_wpAny (wpAny_execs_nil ?_)
    have z3 : s.heap.objs.size < h3.objs.size := hns3.lt
    exact hq h4 tk4 dx t1 (fun b o hb z => k4 b o hb (k13 b o hb (kk b o z))) he4 (Nat.le_of_lt (Nat.lt_of_lt_of_le z3 dn)) dne hn4
structure Made (f : Str) (h h' : Heap) (e C d : Addr) (v : Value) : Prop where
  keep : ∀ b o, h.get? b = some o → h'.get? b = some o
  new : h.objs.size ≤ e
  obj : ∃ t1 : Addr, h'.get? e = some { cls := .ref C, dict := some d, data := .fields #[.ref t1, .none, .none, .none, .bool false, .none] }
  dbig : h.objs.size ≤ d
  dne : d ≠ e
  ns : h'.Ns1 d (fun y => if y = f then some v else none)
theorem tied_made (T : Tied prog K mg x f qual C fI) {v : Value} (X : K.In s.heap) (hlim : s.heap.NoLimit) (glob : s.heap.Ns mainGlobals mg) (blt : s.heap.Ns builtinsNs mb) (bb : ∀ y : Str, y ≠ "__name__" → mb y = bootBuiltins y) (hroom : A.depth + 1 < recursionLimit)
    (hq : ∀ h' tk e d, Made f s.heap h' e C d v → R (.ok (.ret (.ref e))) { s with heap := h', toks := tk }) :
    codeAny (model prog w) A (.call (.ref C) ⟨[v], []⟩) R s := by
  obtain ⟨nm, q, N, bs, bm, sn, sub, ab, col, dd, k0, k1, k2, k3, k5, hC, hbm⟩ := T.cls
  obtain ⟨hp, g, dr, tk, os⟩ := s
  have k : ∀ b o, hp.get? b = some o → ((hp.push (kdv_tup [v])).push (excO C hp.objs.size)).get? b = some o := fun b o e => Heap.get?_push_of_some _ (Heap.get?_push_of_some _ e)
  have hget : ((hp.push (kdv_tup [v])).push (excO C hp.objs.size)).get? (hp.objs.size + 1) = some (excO C hp.objs.size) := by heap_get
  have hnx : K.lookup (hp.objs.size + 1) = none := by
    cases e : K.lookup (hp.objs.size + 1) with
    | none => rfl
    | some o =>
      have z : hp.get? (hp.objs.size + 1) = some o := X _ _ e
      exact absurd (Nat.lt_of_succ_lt (Heap.lt_size z)) (Nat.lt_irrefl _)
  refine HandSPX.call_own PySem.F.excBase_ValueError (fun X => refsVE_contains X bm hbm) (X _ _ hC) (looks_findIn X T.iC) (fun self => bind_fn X self T.tC) (one_sz v) ?_
  refine tied_init (s := ⟨(hp.push (kdv_tup [v])).push (excO C hp.objs.size), g, dr, tk, os⟩) T (X.keeps k) (hlim.keeps k) (glob.keeps k) (blt.keeps k) bb hget hnx ?_ (fun fd hf => .of_eq (T.bd fd _ _ hf)) fun h' tk' dx t1 k' hx dn dne hns => ?_
  · show A.depth + 1 < recursionLimit
    exact hroom
  · have old : ∀ b o, hp.get? b = some o → h'.get? b = some o := fun b o e => k' b o (Nat.ne_of_lt (Nat.lt_succ_of_lt (Heap.lt_size e))) (k b o e)
    have z : hp.objs.size + 1 + 1 ≤ dx := by
      have q := dn
      rw [Heap.size_push, Heap.size_push] at q
      exact q
    exact ⟨rfl, hq h' tk' (hp.objs.size + 1) dx ⟨old, Nat.le_succ _, ⟨t1, hx⟩, Nat.le_trans (Nat.le_trans (Nat.le_succ _) (Nat.le_succ _)) z, dne, hns⟩⟩
end
theorem relO_one {g : Str} {v : V} {v' : Value} (r : RelV v v') (f : Str) : RelO (List.lookup f [(g, v)]) (if f = g then some v' else none) := by
  by_cases hw : f = g
  · subst hw
    rw [if_pos rfl]
    have q : List.lookup f [(f, v)] = some v := by simp [List.lookup]
    rw [q]
    exact r
  · rw [if_neg hw]
    have q2 : List.lookup f [(g, v)] = none := by simp [List.lookup, beq_eq_false_iff_ne.mpr hw]
    rw [q2]
    trivial
section
variable {X : Cx} {x f qual : Str} {C fI : Addr} {p pos : Pos} {e : Expr} {te : TA}
def tMkT (C : Addr) (f : Str) (ta : TA) : L2.St → Hp → XK → Prop := fun σ H Q => ta σ H fun vs H1 => ∃ v, vs = [v] ∧ ∀ d, H1 d = none → Q (.ref C) (some d) (upd H1 d (.xd [(f, v)]))
theorem pmk_tied {k : Nat} (T : Tied X.prog X.K X.mg x f qual C fI) (hr : Room k X.A) (ha : PA X [e] te) (hg : Gl X x := by rfl) (hdb : (x == ("__debug__" : Str)) = false := by decide)
    (he : starEach (e :: []) X.env = (false, eval e X.env) :: starEach [] X.env := by rfl) (hpl : (backTo pos (starEach [] X.env)).any (·.1) = false := by rfl) :
    PMk X (.Call (.Name x p) [e] [] pos) (tMkT C f te) := by
  intro pins s σ H Q I h
  refine wpAny_Call_Name_kw (ld_glob I hg T.gC ?_ hdb)
  refine PySem.W.callWith_K (h₀ := X.base) I.ok.mod.kin T.kC (thn (ha.run pos pins s σ H _ I h) fun us s1 hh => ?_) he hpl
  obtain ⟨vs, H1, I1, r1, v, ev, q1⟩ := hh
  subst ev
  refine ⟨I1.kIn, ?_⟩
  cases r1 with
  | cons rv rn =>
    rename_i v' us'
    cases rn
    show wpAny _ _ (call (.ref C) [v']) _ _ _
    obtain ⟨mb, blt, bb⟩ := I1.mod.blt
    have lim := I1.nolimit
    have glob := I1.mod.glob.keeps I1.bk
    have blt1 := blt.keeps I1.bk
    obtain ⟨hp, g, dr, tk, os⟩ := s1
    refine wpAny_call (tied_made T I1.kIn lim glob blt1 bb (by have := hr.dp; omega) fun h' tk' e d M => ?_)
    show MkP X pins σ Q (.ref e) ⟨h', g, dr, tk', os⟩
    obtain ⟨t1, hoe⟩ := M.obj
    have hns := M.ns
    obtain ⟨G', g1, g2⟩ := restrict h' fun b => decide (b ≠ e)
    have gk : ∀ b, b ≠ e → G'.get? b = h'.get? b := fun b hb => g1 b (decide_eq_true hb)
    have ge : G'.get? e = none := g2 e (by simp)
    have old : ∀ b o, hp.get? b = some o → G'.get? b = some o := fun b o q => (gk b (Nat.ne_of_lt (Nat.lt_of_lt_of_le (Heap.lt_size q) M.new))).trans (M.keep b o q)
    have ob : ObjOk X.prog X.w (upd H1 d (.xd [(f, v)])) G' d (.xd [(f, v)]) := ⟨_, hns.at (fun o q => (gk d M.dne).trans q), fun y => relO_one rv y⟩
    have J : Inv X pins σ (upd H1 d (.xd [(f, v)])) ⟨G', g, dr, tk', os⟩ := I1.laid (t' := tk') old M.dbig ob
    refine ⟨e, _, _, ⟨G', g, dr, tk', os⟩, _, .ref C, some d, rfl, J, fun b o q => ?_, ge, hoe, ⟨rfl, rfl⟩, rfl, rfl, ?_, rfl, I1.bare, raises_own T.exC T.tyC, q1 d (I1.hok.fresh M.dbig)⟩
    · by_cases hb : b = e
      · have q' : G'.get? b = some o := q
        rw [hb, ge] at q'
        cases q'
      · exact (gk b hb).symm.trans q
    · rw [upd_ne (Ne.symm M.dne)]
      exact I1.hok.fresh M.new
theorem ps_raiseT {W : WX} {k : Nat} {pos2 : Pos} (tk : Takes X W) (T : Tied X.prog X.K X.mg x f qual C fI) (hr : Room k X.A) (ha : PA X [e] te) (hc : X.calm = true := by rfl) (hg : Gl X x := by rfl) (hdb : (x == ("__debug__" : Str)) = false := by decide)
    (he : starEach (e :: []) X.env = (false, eval e X.env) :: starEach [] X.env := by rfl) (hpl : (backTo pos (starEach [] X.env)).any (·.1) = false := by rfl) :
    PS X (.Raise (some (.Call (.Name x p) [e] [] pos)) none pos2) (fun _ σ H => tMkT C f te σ H fun cls d H' => W cls d σ H') := ps_raise hc tk (pmk_tied T hr ha hg hdb he hpl)
end
end Z
set_option maxRecDepth 100000
set_option maxHeartbeats 4000000
namespace Z
open PySem PySem.Spec PyProof.Rows L2
structure Df (K : PySem.W.Frag) (mg : Str → Option Value) (x : Str) (st : Stmt) (ps : List Str) (f : Addr) (fd : FuncData) : Prop where
  mg : mg x = some (.ref f)
  fn : Fun K x x st f fd
  bd : Binds K fd ps []
structure Dm (K : PySem.W.Frag) (C : Addr) (m qual : Str) (st : Stmt) (ps : List Str) (f : Addr) (fd : FuncData) : Prop where
  me : Meth K C m f
  fn : Fun K m qual st f fd
  bd : Binds K fd ps []
section
variable {X : Cx} {e : Expr} {es : List Expr} {t : TA} {p pos : Pos} {x : Str} {st : Stmt} {ps : List Str} {f : Addr} {fd : FuncData} {sp : Sp} {k : Nat}
theorem pe_cf (D : Df X.K X.mg x st ps f fd) (G : FnOk X.prog X.w X.K X.mg X.base CX0 k f fd ps sp) (hr : Room k X.A) (ha : PA X (e :: es) t) (hg : Gl X x := by rfl) (hdb : (x == ("__debug__" : Str)) = false := by decide)
    (he : starEach (e :: es) X.env = (false, eval e X.env) :: starEach es X.env := by rfl) (hpl : (backTo pos (starEach es X.env)).any (·.1) = false := by rfl) :
    PE X (.Call (.Name x p) (e :: es) [] pos) (tCall sp [] E0 t) := pe_call G hr hg D.mg D.fn.kp D.bd .nil pass0 ha hdb he hpl
theorem pe_cfG (D : Df X.K X.mg x st ps f fd) (G : FnG X.prog X.w X.K X.mg X.base CX0 k f fd ps sp) (hr : Room k X.A) (gu : X.A.guards = some []) (ha : PA X (e :: es) t) (hg : Gl X x := by rfl) (hdb : (x == ("__debug__" : Str)) = false := by decide)
    (he : starEach (e :: es) X.env = (false, eval e X.env) :: starEach es X.env := by rfl) (hpl : (backTo pos (starEach es X.env)).any (·.1) = false := by rfl) :
    PE X (.Call (.Name x p) (e :: es) [] pos) (tCallS sp (fun _ _ _ _ => False) t) := pe_callG G hr gu hg D.mg D.fn.kp D.bd passAt0 ha hdb he hpl
end
theorem But.tk {l : Addr} {H H' : Hp} {xs : List V} (b : But l H H') (h : H l = some (.lst xs)) : TK H H' :=
  ⟨fun c ys e => b c _ (ne_of e h (by intro z; cases z)) e, fun c o u e => b c _ (ne_of e h (by intro z; cases z)) e⟩
theorem But.sql {K : PySem.W.Frag} {l a : Addr} {H H' : Hp} {xs : List V} (b : But l H H') (ne : a ≠ l) (h : SqL K H a xs) : SqL K H' a xs := by
  rcases h with (h | ⟨o, h⟩) | h
  · exact .inl (.inl (b _ _ ne h))
  · exact .inl (.inr ⟨o, b _ _ ne h⟩)
  · exact .inr h
inductive Tr where
  | con (n : Int)
  | var (w : Str)
  | cho (a b c d : Tr)
  deriving DecidableEq
namespace Tr
def d : Tr → PyData
  | .con n => .int n
  | .var w => .str w
  | .cho a b c e => .tuple [a.d, b.d, c.d, e.d]
def deep : Tr → Nat
  | .con _ => 1
  | .var _ => 1
  | .cho a b c e => 1 + max (max a.deep b.deep) (max c.deep e.deep)
def str (s : String) : Str := s
def text : Tr → Str
  | .con n => toString n
  | .var w => w
  | .cho a b c e => str "(" ++ a.text ++ str "=" ++ b.text ++ str "?" ++ c.text ++ str ":" ++ e.text ++ str ")"
end Tr
theorem tr_tk {K : PySem.W.Frag} {H H' : Hp} (k : TK H H') : ∀ (t : Tr) {v : V}, Dp K H v t.d → Dp K H' v t.d
  | .con n, _, h => by
    unfold Tr.d at h ⊢
    cases h
    exact .int n
  | .var w, _, h => by
    unfold Tr.d at h ⊢
    cases h
    exact .str w
  | .cho a b c e, v, h => by
    unfold Tr.d at h ⊢
    cases h with
    | tup sq al =>
      cases al with | cons h1 al => cases al with | cons h2 al => cases al with | cons h3 al => cases al with | cons h4 al =>
      cases al
      exact .tup (SqT.tk k sq) (.cons (tr_tk k a h1) (.cons (tr_tk k b h2) (.cons (tr_tk k c h3) (.cons (tr_tk k e h4) .nil))))
theorem tr_con {K : PySem.W.Frag} {H : Hp} {n : Int} {v : V} (h : Dp K H v (Tr.con n).d) : v = .int n := by
  unfold Tr.d at h
  cases h
  rfl
theorem tr_var {K : PySem.W.Frag} {H : Hp} {w : Str} {v : V} (h : Dp K H v (Tr.var w).d) : v = .str w := by
  unfold Tr.d at h
  cases h
  rfl
theorem tr_cho {K : PySem.W.Frag} {H : Hp} {a b c e : Tr} {v : V} (h : Dp K H v (Tr.cho a b c e).d) : ∃ (p : Addr) (v1 v2 v3 v4 : V), v = .ref p ∧ SqT K H p [v1, v2, v3, v4] ∧ Dp K H v1 a.d ∧ Dp K H v2 b.d ∧ Dp K H v3 c.d ∧ Dp K H v4 e.d := by
  unfold Tr.d at h
  cases h with
  | tup sq al =>
    cases al with | cons h1 al => cases al with | cons h2 al => cases al with | cons h3 al => cases al with | cons h4 al =>
    cases al
    exact ⟨_, _, _, _, _, rfl, sq, h1, h2, h3, h4⟩
theorem tr_tup {K : PySem.W.Frag} {H : Hp} {a b c e : Tr} {p : Addr} {v1 v2 v3 v4 : V} (sq : SqT K H p [v1, v2, v3, v4]) (h1 : Dp K H v1 a.d) (h2 : Dp K H v2 b.d) (h3 : Dp K H v3 c.d) (h4 : Dp K H v4 e.d) : Dp K H (.ref p) (Tr.cho a b c e).d :=
  .tup sq (.cons h1 (.cons h2 (.cons h3 (.cons h4 .nil))))
theorem eqv_refl : ∀ t : Tr, PyData.eqv t.d t.d = true
  | .con n => by simp [Tr.d, PyData.eqv]
  | .var w => by simp [Tr.d, PyData.eqv]
  | .cho a b c e => by simp [Tr.d, PyData.eqv, PyData.eqvAll, eqv_refl a, eqv_refl b, eqv_refl c, eqv_refl e]
theorem eqv_tr : ∀ s t : Tr, PyData.eqv s.d t.d = decide (s = t)
  | .con n, .con m => by simp [Tr.d, PyData.eqv, Bool.beq_eq_decide_eq]
  | .con n, .var _ => by simp [Tr.d, PyData.eqv]
  | .con n, .cho _ _ _ _ => by simp [Tr.d, PyData.eqv]
  | .var n, .con m => by simp [Tr.d, PyData.eqv]
  | .var n, .var m => by simp [Tr.d, PyData.eqv, Bool.beq_eq_decide_eq]
  | .var n, .cho _ _ _ _ => by simp [Tr.d, PyData.eqv]
  | .cho _ _ _ _, .con m => by simp [Tr.d, PyData.eqv]
  | .cho _ _ _ _, .var _ => by simp [Tr.d, PyData.eqv]
  | .cho a b c e, .cho a' b' c' e' => by
    simp only [Tr.d, PyData.eqv, PyData.eqvAll, eqv_tr a a', eqv_tr b b', eqv_tr c c', eqv_tr e e', Tr.cho.injEq, Bool.and_true, Bool.decide_and]
def isLet (c : Nat) : Prop := 97 ≤ c ∧ c ≤ 122
def Word (w : Str) : Prop := 1 ≤ w.length ∧ w.length ≤ 8 ∧ ∀ c ∈ w.cps.toList, isLet c
def Tr.Ok : Tr → Prop
  | .con n => 0 ≤ n ∧ n ≤ 9
  | .var w => Word w
  | .cho a b c e => a.Ok ∧ b.Ok ∧ c.Ok ∧ e.Ok
theorem deep_pos : ∀ t : Tr, 1 ≤ t.deep
  | .con _ => Nat.le_refl _
  | .var _ => Nat.le_refl _
  | .cho a b c e => by unfold Tr.deep; omega
theorem d_depth : ∀ t : Tr, t.d.depth ≤ t.deep
  | .con n => by simp [Tr.d, Tr.deep, PyData.depth]
  | .var w => by simp [Tr.d, Tr.deep, PyData.depth]
  | .cho a b c e => by
    have h1 := d_depth a
    have h2 := d_depth b
    have h3 := d_depth c
    have h4 := d_depth e
    simp only [Tr.d, Tr.deep, PyData.depth, PyData.depthAll]
    omega
end Z
set_option maxRecDepth 100000
set_option maxHeartbeats 4000000
namespace Z
open PySem PySem.Spec PyProof.Rows L2
theorem ps_no {X : Cx} {st : Stmt} : PS X st tNever := ⟨fun _ _ _ _ _ _ h => h.elim⟩
theorem pss_no {X : Cx} {st : List Stmt} : PSs X st tNever := ⟨fun _ _ _ _ _ _ h => h.elim⟩
theorem pe_no {X : Cx} {e : Expr} : PE X e (fun _ _ _ => False) := ⟨fun _ _ _ _ _ _ h => h.elim⟩
section
variable {J : It} {n : Nat} {G : Hp → Prop} {Y : Nat → Hp → V → Hp → Prop}
theorem lc_acc (w : Walk J n G Y) {g : TG} {tt : TT} {te : TE} {vs : List Nat} {σ : L2.St} {H1 : Hp} {D : Addr} {Qd : Hp → Prop} (I : Nat → List V → Hp → Prop) (h0 : I 0 [] (upd H1 D (.lst []))) (hG : ∀ i acc H, i ≤ n → H D = some (.lst acc) → I i acc H → G H)
    (hs : ∀ i x acc H H', i < n → H D = some (.lst acc) → I i acc H → Y i H x H' → g x (wipe σ vs) H' fun σ2 H2 => wipe σ2 vs = wipe σ vs ∧ tt σ2 H2 fun b H3 =>
      if b = true then te σ2 H3 fun y H4 => H4 D = some (.lst acc) ∧ acc.length < sizeLine ∧ I (i + 1) (acc ++ [y]) (upd H4 D (.lst (acc ++ [y]))) else H3 D = some (.lst acc) ∧ I (i + 1) acc H3)
    (mtt : ∀ σ H (P P' : Bool → Hp → Prop), (∀ b H, P b H → P' b H) → tt σ H P → tt σ H P')
    (mte : ∀ σ H (P P' : V → Hp → Prop), (∀ b H, P b H → P' b H) → te σ H P → te σ H P')
    (mg : ∀ x σ H (P P' : L2.St → Hp → Prop), (∀ b H, P b H → P' b H) → g x σ H P → g x σ H P')
    (hd : ∀ acc H, H D = some (.lst acc) → I n acc H → Qd H) :
    ∃ W : Nat → Nat → Hp → Prop, (∃ m, W 0 m (upd H1 D (.lst []))) ∧ ∀ i m H, W i m H →
      (J.stop i H ∧ Qd H) ∨ (J.go i H ∧ ∃ Nx : Hp → Prop, (∀ H', Nx H' → ∃ m', m' < m ∧ W (i + 1) m' H') ∧ ∀ x H', J.yld i H x H' → g x (wipe σ vs) H' fun σ2 H2 => wipe σ2 vs = wipe σ vs ∧ tt σ2 H2 fun b H3 =>
        if b = true then te σ2 H3 fun y H4 => ∃ acc, H4 D = some (.lst acc) ∧ acc.length < sizeLine ∧ Nx (upd H4 D (.lst (acc ++ [y]))) else Nx H3) := by
  refine lc_it w (fun i H => ∃ acc, H D = some (.lst acc) ∧ I i acc H) ⟨[], upd_same, h0⟩ (fun i H hi ⟨acc, e, h⟩ => hG i acc H hi e h) (fun i x H H' hi ⟨acc, e, h⟩ y => ?_) (fun H ⟨acc, e, h⟩ => hd acc H e h)
  refine mg _ _ _ _ _ (fun σ2 H2 ⟨h1, h2⟩ => ⟨h1, mtt _ _ _ _ (fun b H3 h3 => ?_) h2⟩) (hs i x acc H H' hi e h y)
  cases b with
  | true => exact mte _ _ _ _ (fun y H4 ⟨p, q, r⟩ => ⟨acc, p, q, acc ++ [y], upd_same, r⟩) h3
  | false => exact ⟨acc, h3⟩
end
section
variable {prog : Program} {w : World} {A : Around} {E : Value → Shared → Prop} {s : Shared} {K : PySem.W.Frag} {x C : Addr} {ox : Obj} {od : Option Obj}
theorem ifBound_objNe {M : Model} {args : List Value} {Q : Option Value → Shared → Prop} (X : K.In s.heap) (I : PySem.W.InstAt s.heap x ox C od) (hs : PySem.W.findIn K (.ref C) "__ne__" = some (some (.builtin "object.__ne__")))
    (h : wpAny M A (call (.builtin "object.__ne__") (.ref x :: args)) (fun v => Q (some v)) E s) : wpAny M A (callSpecialIfBound? (.ref x) "__ne__" args) Q E s := by
  simp only [callSpecialIfBound?, bindSpecialIfBound?]
  refine wpAny_holding (wpAny_bind (wpAny_bind (wpAny_bind (I.type.here ((PySem.W.looks_findIn X hs).here ?_)))))
  refine wpAny_bind (wpAny_askSetting (wpAny_ite ?_))
  have fin : wpAny M A (call (.builtin "object.__ne__") ([.ref x] ++ args) >>= fun v => pure (some v)) Q E s := wpAny_bind (wpAny_mono h (fun v s' h' => wpAny_pure h') fun _ _ h' => h')
  split
  · exact wpAny_bind (wpAny_of_eq (F.cmp_object.ne.bind _) (wpAny_pure (by exact fin)))
  · exact wpAny_tryCatch (wpAny_bind (wpAny_of_eq (F.cmp_object.ne.bind _) (wpAny_pure (by exact fin))))
theorem ne_entry {f b : Addr} {Q : Fin → Shared → Prop} (hu : A.units < cLine) (X : K.In s.heap) (I : PySem.W.InstAt s.heap x ox C od) (hs : PySem.W.findIn K (.ref C) "__eq__" = some (some (.ref f))) (hf : PySem.W.isFn K (.ref f) = true)
    (h : codeAny (model prog w) A (.call (.ref f) ⟨[.ref x, .ref b], []⟩) (fun r s' => match r with | .ok (.ret v) => ∃ r, v = .bool r ∧ Q (.done (.ret (.bool (!r)))) s' | .ok _ => False | .error e => E e s') s) :
    wpAny (model prog w) A (Builtin.«object.__ne__» ⟨[.ref x, .ref b], []⟩) Q E s := by
  unfold Builtin.«object.__ne__»
  repeat (first | with_reducible refine wpAny_cRoomFor hu ?_ | with_reducible refine PySem.W.ifBound_K X I hs hf ?_ | wp_step)
  refine codeAny_mono h fun r s' hv => ?_
  match r, hv with
  | .ok (.ret v), ⟨r, e, q⟩ =>
    subst e
    dsimp only
    refine wpAny_bind (wpAny_truthy_bool ?_)
    exact wpAny_pure q
  | .error e, hv => exact hv
theorem rc_ne {f b : Addr} {Q : Value → Shared → Prop} (hu : A.units + 1 < cLine) (X : K.In s.heap) (I : PySem.W.InstAt s.heap x ox C od) {oy : Obj} {od' : Option Obj} (J : PySem.W.InstAt s.heap b oy C od') (hn : PySem.W.findIn K (.ref C) "__ne__" = some (some (.builtin "object.__ne__")))
    (hs : PySem.W.findIn K (.ref C) "__eq__" = some (some (.ref f))) (hm : PySem.W.mroIn K C (.type "object") = some true) (hf : PySem.W.isFn K (.ref f) = true)
    (h : codeAny (model prog w) A.in1 (.call (.ref f) ⟨[.ref x, .ref b], []⟩) (fun r s' => match r with | .ok (.ret v) => ∃ r, v = .bool r ∧ Q (.bool (!r)) s' | .ok _ => False | .error e => E e s') s) : wpAny (model prog w) A (richCompare .NotEq (.ref x) (.ref b)) Q E s := by
  have hu0 : A.units < cLine := Nat.lt_of_succ_lt hu
  have one : wpAny (model prog w) A (tryCompare (.ref x) "__ne__" (.ref b)) (fun r s' => ∃ v, r = some v ∧ Q v s') E s := by
    unfold tryCompare
    refine wpAny_bind (ifBound_objNe X I hn ?_)
    refine wpAny_call (codeAny_call_builtin F.cmp_object.ne.plain F.cmpEntry_ne (PySem.W.check_slot F.cmpKind_ne F.cmpSplit_ne (I.type.andThen (PySem.W.looks_mroIn X hm)) (F.cmpArgs_ne _ _) ?_))
    refine ne_entry (A := A.in1) hu X I hs hf (codeAny_mono h fun r s' hv => ?_)
    match r, hv with
    | .ok (.ret v), ⟨r, e, q⟩ =>
      subst e
      exact ⟨r, rfl, wpAny_pure ⟨_, rfl, q⟩⟩
    | .error e, hv => exact hv
  unfold richCompare
  simp only [oneThing_ref, cmpInfo_NotEq]
  refine wpAny_holding (wpAny_bind (wpAny_cRoomFor hu0 ?_))
  refine wpAny_bind (I.type.here (wpAny_bind (J.type.here ?_)))
  simp only [bne_self_eq_false, Bool.false_eq_true, if_false]
  refine wpAny_bind (wpAny_pure ?_)
  simp only [Bool.false_eq_true, if_false]
  refine wpAny_bind (wpAny_mono one (fun r s' z => ?_) fun _ _ e => e)
  obtain ⟨v, rfl, hq⟩ := z
  exact wpAny_pure hq
end
section
variable {X : Cx} {CX : CXT} {C f : Addr} {fd : FuncData} {ps : List Str} {sp : Sp} {E : XK} {n : Nat}
def rNeO (C : Addr) (sp : Sp) (E : XK) : R2 := fun x y H Q => ∃ a b dx dy fs gs, x = .ref a ∧ y = .ref b ∧ H a = some (.ins C dx fs) ∧ H b = some (.ins C dy gs) ∧ sp [.ref a, .ref b] H (fun v H' => ∃ r, v = .bl r ∧ Q (.bl (!r)) H') E
theorem op_neOwn (F : FnOk X.prog X.w X.K X.mg X.base CX n f fd ps sp) (hn : PySem.W.findIn X.K (.ref C) "__ne__" = some (some (.builtin "object.__ne__"))) (hs : PySem.W.findIn X.K (.ref C) "__eq__" = some (some (.ref f)))
    (hm : PySem.W.mroIn X.K C (.type "object") = some true) (hf : PySem.W.isFn X.K (.ref f) = true) (hb : Binds X.K fd ps []) (hx : Passes CX X E) (hr : Room (n + 1) X.A) : OpR X (compareOp .NotEq) (rNeO C sp E) := by
  intro pins s σ H x y u v Q I rx ry d
  obtain ⟨a, b, dx, dy, fs, gs, rfl, rfl, ha, hb', hsp⟩ := d
  cases rx
  cases ry
  obtain ⟨mA, J, _⟩ := ins_get I.hok ha
  obtain ⟨mB, J', _⟩ := ins_get I.hok hb'
  obtain ⟨od, J, _⟩ := J.look
  obtain ⟨od', J', _⟩ := J'.look
  refine rc_ne (hu_of hr) I.kIn J J' hn hs hm hf ?_
  have e0 : Env0 X.prog X.w X.K X.mg X.base X.A.in1 X.stack s H := by
    have e := I.env0
    exact ⟨e.frames, e.mod, e.bs, e.bsz, e.funs, e.frf, e.hok, e.bare⟩
  have hl := F.len _ _ _ _ hsp
  have r2 : Vals [V.ref a, V.ref b] [Value.ref a, Value.ref b] := .cons rfl (.cons rfl .nil)
  refine (codeAny_mono (F.run X.A.in1 X.stack s H ⟨[.ref a, .ref b], []⟩ [.ref a, .ref b] [.ref a, .ref b] _ E hr.in1 e0 (by
    have := hb s [.ref a, .ref b] I.kIn (by simpa using hl)
    simpa using this) r2 hsp) fun r s' hq => ?_)
  cases r with
  | error e => exact hx pins σ H s e s' I hq
  | ok fl =>
    cases fl with
    | ret w =>
      obtain ⟨z, H', I', rz, r, ez, ex⟩ := I.after hq
      subst ez
      cases rz
      exact ⟨r, rfl, .bl (!r), H', I', rfl, ex⟩
    | next => exact False.elim hq
    | brk => exact False.elim hq
    | cont => exact False.elim hq
end
structure CSta (K : PySem.W.Frag) (C : Addr) (mc : Value) (m : Str) (p g : Addr) : Prop where
  rd : PySem.W.readsIn K C mc = true
  ga : PySem.W.specialIn K (.ref C) "__getattribute__" = some (some (.builtin "type.__getattribute__"))
  at_ : PySem.W.findCls K (.ref C) mc m = some (.get (.builtin "staticmethod.__get__") (.ref p) .none (.ref C))
  rc : ∃ rest, PySem.W.recIn K p "staticmethod" = some (.ref g :: rest)
  kp : PySem.W.keepIn K (.ref g) = true
section
variable {X : Cx} {CX : CXT} {k : Nat} {C p g : Addr} {mc : Value} {sp : Sp} {E : XK} {o e : Expr} {es : List Expr} {m : Str} {pos apos : Pos} {ta : TE} {t : TA} {pl : Sem Bool} {fd : FuncData} {ps : List Str} {dvs : List V} {ds : List Value}
def tSta (C : Addr) (sp : Sp) (E : XK) (ta : TE) (t : TA) : TE := fun σ H Q => ta σ H fun x H1 => x = .ref C ∧ t σ H1 fun vs H2 => sp vs H2 Q E
theorem pe_sta (he : PE X o ta) (c : CSta X.K C mc m p g) (F : FnOk X.prog X.w X.K X.mg X.base CX k g fd ps sp) (hr : Room k X.A) (hb : Binds X.K fd ps []) (hx : Passes CX X E) (ha : PA X (e :: es) t)
    (hst : starEach (e :: es) X.env = (false, eval e X.env) :: starEach es X.env := by rfl) (hpl : (backTo pos (starEach es X.env)).any (·.1) = false := by rfl)
    (ht : eval (.Call (.Attribute o m apos) (e :: es) [] pos) X.env = (do
      let ov ← eval o X.env
      standAt apos.atName
      let (f, first) ← holding [ov] (getMethod ov m pl)
      callWith pos f first (backTo pos (starEach (e :: es) X.env)) (backToKw pos (keywordEach [] X.env))) := by rfl) :
    PE X (.Call (.Attribute o m apos) (e :: es) [] pos) (tSta C sp E ta t) := by
  refine ⟨fun pins s σ H Q I h => ?_⟩
  refine PySem.W.methodCall_KW (pl := pl) (thn (he.run pins s σ H _ I h) fun u s1 ⟨x, H1, I1, rx, ex, q⟩ => ?_) ht
  subst ex
  obtain rfl : u = Value.ref C := rx
  obtain ⟨rest, hp⟩ := c.rc
  refine PySem.W.method_cls I1.kIn c.ga (PySem.W.cls_bind I1.kIn c.rd c.at_ (wpAny_call (PySem.W.sm_get (s := { s1 with toks := s1.toks + 1 }) I1.kIn hp (PySem.W.handed_on rfl ?_))))
  refine PySem.W.callWith_K (first := []) (h₀ := X.base) I.ok.mod.kin c.kp (thn (ha.run pos pins _ σ H1 _ (I1.tok _) q) fun us s2 ⟨vs, H2, I2, r, q2⟩ => ⟨I2.kIn, ?_⟩) hst hpl
  exact run_fn (us := us) (vs := vs) F hr hb .nil hx I2 r (by rw [List.append_nil]; exact q2)
end
end Z
set_option maxRecDepth 100000
set_option maxHeartbeats 4000000
namespace Z
open PySem PySem.Spec PyProof.Rows L2
def tx (l : List Nat) : Str := ⟨l.toArray⟩
def ls (s : Str) : List Nat := s.cps.toList
theorem tx_ls (s : Str) : tx (ls s) = s := by cases s; simp [tx, ls]
theorem ls_tx (l : List Nat) : ls (tx l) = l := by simp [tx, ls]
theorem ls_app (a b : Str) : ls (a ++ b) = ls a ++ ls b := by
  show (a.cps ++ b.cps).toList = _
  simp [ls]
theorem ls_len (s : Str) : (ls s).length = s.length := by simp [ls, Str.length]
theorem tx_len (l : List Nat) : (tx l).length = l.length := by simp [tx, Str.length]
theorem len_app (a b : Str) : (a ++ b).length = a.length + b.length := by rw [← ls_len, ls_app, List.length_append, ls_len, ls_len]
theorem str_ext {a b : Str} (h : ls a = ls b) : a = b := by rw [← tx_ls a, ← tx_ls b, h]
def isLB (c : Nat) : Bool := decide (97 ≤ c) && decide (c ≤ 122)
def isDB (c : Nat) : Bool := decide (48 ≤ c) && decide (c ≤ 57)
def sLet : Str := "abcdefghijklmnopqrstuvwxyz"
def sDig : Str := "0123456789"
theorem ls_let : ls sLet = List.range' 97 26 := by decide +kernel
theorem ls_dig : ls sDig = List.range' 48 10 := by decide +kernel
theorem mem_let (c : Nat) : decide (c ∈ ls sLet) = isLB c := by
  rw [ls_let]
  unfold isLB
  rw [← Bool.decide_and]
  congr 1
  rw [List.mem_range'_1]
  apply propext
  omega
theorem mem_dig (c : Nat) : decide (c ∈ ls sDig) = isDB c := by
  rw [ls_dig]
  unfold isDB
  rw [← Bool.decide_and]
  congr 1
  rw [List.mem_range'_1]
  apply propext
  omega
theorem mem_let' (c : Nat) : decide (c ∈ ("abcdefghijklmnopqrstuvwxyz" : Str).cps.toList) = isLB c := mem_let c
theorem mem_dig' (c : Nat) : decide (c ∈ ("0123456789" : Str).cps.toList) = isDB c := mem_dig c
theorem isLB_iff {c : Nat} : isLB c = true ↔ isLet c := by simp [isLB, isLet]
def wordB (l : List Nat) : Bool := (decide (1 ≤ l.length) && decide (l.length ≤ 8)) && l.all isLB
theorem wordB_iff {w : Str} : wordB (ls w) = true ↔ Word w := by
  unfold wordB Word
  rw [ls_len, Bool.and_eq_true, Bool.and_eq_true, decide_eq_true_eq, decide_eq_true_eq, List.all_eq_true]
  exact ⟨fun ⟨⟨a, b⟩, c⟩ => ⟨a, b, fun x hx => isLB_iff.mp (c x hx)⟩, fun ⟨a, b, c⟩ => ⟨⟨a, b⟩, fun x hx => isLB_iff.mpr (c x hx)⟩⟩
def plp (f : List Nat → Option (Tr × List Nat)) : List Nat → List Nat → Option (List Tr × List Nat)
  | [], r => some ([], r)
  | s :: ss, r => match f r with
    | some (t, c :: q) => if c = s then (match plp f ss q with
      | some (ts, z) => some (t :: ts, z)
      | none => none) else none
    | _ => none
def plx : Option (List Tr × List Nat) → Option (Tr × List Nat)
  | some ([a, b, c, e], z) => some (.cho a b c e, z)
  | _ => none
def pl : Nat → List Nat → Option (Tr × List Nat)
  | 0, _ => none
  | d + 1, [] => none
  | d + 1, c :: r =>
    if isDB c = true then some (.con ((c : Int) - 48), r)
    else if wordB ((c :: r).takeWhile isLB) = true then some (.var (tx ((c :: r).takeWhile isLB)), (c :: r).dropWhile isLB)
    else if c ≠ 40 ∨ d = 0 then none
    else plx (plp (pl d) [61, 63, 58, 41] r)
theorem plp_len {f : List Nat → Option (Tr × List Nat)} : ∀ {ss r ts z}, plp f ss r = some (ts, z) → ts.length = ss.length
  | [], r, ts, z, h => by
    simp [plp] at h
    rw [h.1]
    rfl
  | s :: ss, r, ts, z, h => by
    unfold plp at h
    split at h
    · rename_i t c q e
      split at h
      · split at h
        · rename_i us y e2
          cases h
          rw [List.length_cons, List.length_cons, plp_len e2]
        · cases h
      · cases h
    · cases h
def planOf (z : Str) : Option Tr := match pl 3 (ls z) with
  | some (t, []) => some t
  | _ => none
def Ends (r : List Nat) : Prop := ∀ c q, r = c :: q → isLB c = false
theorem take_word {l r : List Nat} (h : ∀ c ∈ l, isLB c = true) (e : Ends r) : (l ++ r).takeWhile isLB = l ∧ (l ++ r).dropWhile isLB = r := by
  induction l with
  | nil =>
    cases r with
    | nil => exact ⟨rfl, rfl⟩
    | cons c q =>
      have := e c q rfl
      simp [this]
  | cons c l ih =>
    have h1 := h c List.mem_cons_self
    have := ih fun x hx => h x (List.mem_cons_of_mem _ hx)
    simp only [List.cons_append, List.takeWhile_cons, List.dropWhile_cons, h1, if_true]
    exact ⟨congrArg (c :: ·) this.1, this.2⟩
theorem con_text {n : Int} (h : 0 ≤ n ∧ n ≤ 9) : ls (Tr.con n).text = [48 + n.toNat] := by
  have : n = 0 ∨ n = 1 ∨ n = 2 ∨ n = 3 ∨ n = 4 ∨ n = 5 ∨ n = 6 ∨ n = 7 ∨ n = 8 ∨ n = 9 := by omega
  rcases this with rfl | rfl | rfl | rfl | rfl | rfl | rfl | rfl | rfl | rfl <;> decide +kernel
theorem cho_text (a b c e : Tr) : ls (Tr.cho a b c e).text = 40 :: (ls a.text ++ (61 :: (ls b.text ++ (63 :: (ls c.text ++ (58 :: (ls e.text ++ [41]))))))) := by
  show ls (Tr.str "(" ++ a.text ++ Tr.str "=" ++ b.text ++ Tr.str "?" ++ c.text ++ Tr.str ":" ++ e.text ++ Tr.str ")") = _
  simp only [ls_app]
  have h1 : ls (Tr.str "(") = [40] := by decide +kernel
  have h2 : ls (Tr.str "=") = [61] := by decide +kernel
  have h3 : ls (Tr.str "?") = [63] := by decide +kernel
  have h4 : ls (Tr.str ":") = [58] := by decide +kernel
  have h5 : ls (Tr.str ")") = [41] := by decide +kernel
  rw [h1, h2, h3, h4, h5]
  simp
theorem pl_text : ∀ (t : Tr) (d : Nat) (r : List Nat), t.Ok → t.deep ≤ d → Ends r → pl d (ls t.text ++ r) = some (t, r)
  | .con n, d, r, ok, hd, e => by
    obtain ⟨d, rfl⟩ : ∃ k, d = k + 1 := ⟨d - 1, by have := deep_pos (.con n); omega⟩
    have ok' : 0 ≤ n ∧ n ≤ 9 := ok
    rw [con_text ok']
    show pl (d + 1) ((48 + n.toNat) :: r) = _
    unfold pl
    have : isDB (48 + n.toNat) = true := by
      unfold isDB
      simp
      omega
    rw [if_pos this]
    have z : ((48 + n.toNat : Nat) : Int) - 48 = n := by omega
    rw [z]
  | .var w, d, r, ok, hd, e => by
    obtain ⟨d, rfl⟩ : ∃ k, d = k + 1 := ⟨d - 1, by have := deep_pos (.var w); omega⟩
    have ok' : Word w := ok
    have wb := wordB_iff.mpr ok'
    have al : ∀ c ∈ ls w, isLB c = true := fun c hc => isLB_iff.mpr (ok'.2.2 c hc)
    obtain ⟨t1, t2⟩ := take_word al e
    show pl (d + 1) (ls w ++ r) = _
    have ne : 1 ≤ (ls w).length := by rw [ls_len]; exact ok'.1
    generalize hl : ls w = l at *
    cases l with
    | nil => simp at ne
    | cons c l =>
      have hc := al c List.mem_cons_self
      show pl (d + 1) (c :: (l ++ r)) = _
      unfold pl
      have nd : isDB c = false := by
        unfold isLB at hc
        unfold isDB
        simp at hc ⊢
        omega
      rw [if_neg (by rw [nd]; decide)]
      have t1' : (c :: (l ++ r)).takeWhile isLB = c :: l := t1
      have t2' : (c :: (l ++ r)).dropWhile isLB = r := t2
      rw [t1', t2', if_pos wb, ← hl, tx_ls]
  | .cho a b c f, d, r, ok, hd, e => by
    obtain ⟨oa, ob, oc, oe⟩ : a.Ok ∧ b.Ok ∧ c.Ok ∧ f.Ok := ok
    have hd' : 1 + max (max a.deep b.deep) (max c.deep f.deep) ≤ d := hd
    obtain ⟨d, rfl⟩ : ∃ k, d = k + 1 := ⟨d - 1, by omega⟩
    rw [cho_text]
    have pa := deep_pos a
    have E : ∀ s : Nat, isLB s = false → ∀ q : List Nat, Ends (s :: q) := fun s hs q c q' h => by
      cases h
      exact hs
    have ha := pl_text a d (61 :: (ls b.text ++ (63 :: (ls c.text ++ (58 :: (ls f.text ++ (41 :: r))))))) oa (by omega) (E _ (by decide) _)
    have hb := pl_text b d (63 :: (ls c.text ++ (58 :: (ls f.text ++ (41 :: r))))) ob (by omega) (E _ (by decide) _)
    have hc := pl_text c d (58 :: (ls f.text ++ (41 :: r))) oc (by omega) (E _ (by decide) _)
    have he := pl_text f d (41 :: r) oe (by omega) (E _ (by decide) _)
    simp only [List.cons_append, List.append_assoc, List.nil_append]
    unfold pl
    have h1 : isDB 40 = false := by decide
    have h2 : ∀ q : List Nat, (40 :: q).takeWhile isLB = [] := fun q => by
      have : isLB 40 = false := by decide
      simp [this]
    rw [if_neg (by rw [h1]; decide), h2, if_neg (by decide), if_neg (by omega)]
    simp only [plp, ha, hb, hc, he, plx, if_true]
theorem plan_text {t : Tr} (ok : t.Ok) (hd : t.deep ≤ 3) : planOf t.text = some t := by
  unfold planOf
  have := pl_text t 3 [] ok hd (fun c q h => by cases h)
  rw [List.append_nil] at this
  rw [this]
def tB : Nat → Nat
  | 0 => 0
  | d + 1 => 4 * tB d + 8
theorem text_len : ∀ (d : Nat) (t : Tr), t.Ok → t.deep ≤ d → t.text.length ≤ tB d
  | 0, t, _, hd => by have := deep_pos t; omega
  | d + 1, .con n, ok, hd => by
    rw [← ls_len, con_text ok]
    show 1 ≤ 4 * tB d + 8
    omega
  | d + 1, .var w, ok, hd => by
    have ok' : Word w := ok
    show w.length ≤ 4 * tB d + 8
    have := ok'.2.1
    omega
  | d + 1, .cho a b c e, ok, hd => by
    obtain ⟨oa, ob, oc, oe⟩ : a.Ok ∧ b.Ok ∧ c.Ok ∧ e.Ok := ok
    have hd' : 1 + max (max a.deep b.deep) (max c.deep e.deep) ≤ d + 1 := hd
    have h1 := text_len d a oa (by omega)
    have h2 := text_len d b ob (by omega)
    have h3 := text_len d c oc (by omega)
    have h4 := text_len d e oe (by omega)
    rw [← ls_len, cho_text]
    simp only [List.length_cons, List.length_append, ls_len, List.length_nil]
    show _ ≤ 4 * tB d + 8
    omega
theorem text_small {t : Tr} (ok : t.Ok) (hd : t.deep ≤ 3) : t.text.length ≤ 168 := text_len 3 t ok hd
def Tr.has (p : Tr) : Tr → Bool
  | .con n => decide (p = .con n)
  | .var w => decide (p = .var w)
  | .cho a b c e => decide (p = .cho a b c e) || (p.has a || (p.has b || (p.has c || p.has e)))
theorem show_small : ∀ (t : Tr), t.Ok → t.d.showable = true
  | .con n, ok => by
    have ok' : 0 ≤ n ∧ n ≤ 9 := ok
    have : n.natAbs.log2 < 1920 := Nat.lt_of_le_of_lt (Nat.log2_le_self _) (by omega)
    simp [Tr.d, PyData.showable, this]
  | .var w, ok => by simp [Tr.d, PyData.showable]
  | .cho a b c e, ok => by
    obtain ⟨oa, ob, oc, oe⟩ : a.Ok ∧ b.Ok ∧ c.Ok ∧ e.Ok := ok
    simp [Tr.d, PyData.showable, PyData.showableAll, show_small a oa, show_small b ob, show_small c oc, show_small e oe]
def sB : Nat → Nat
  | 0 => 0
  | d + 1 => 4 * sB d + 90
theorem shown_len : ∀ (d : Nat) (t : Tr), t.Ok → t.deep ≤ d → t.d.shown.length ≤ sB d
  | 0, t, _, hd => by have := deep_pos t; omega
  | d + 1, .con n, ok, hd => by
    have : (Tr.con n).d.shown = (Tr.con n).text := by
      unfold Tr.d
      simp only [PyData.shown]
      rfl
    rw [this, ← ls_len, con_text ok]
    show 1 ≤ 4 * sB d + 90
    omega
  | d + 1, .var w, ok, hd => by
    have ok' : Word w := ok
    have : (Tr.var w).d.shown = reprText w := by
      unfold Tr.d
      simp only [PyData.shown]
    rw [this]
    have h := PySem.StrLaws.reprText_len w fun c hc => by
      have := (ok'.2.2 c hc).2
      exact Nat.lt_of_le_of_lt this (by decide)
    have := ok'.2.1
    show _ ≤ 4 * sB d + 90
    omega
  | d + 1, .cho a b c e, ok, hd => by
    obtain ⟨oa, ob, oc, oe⟩ : a.Ok ∧ b.Ok ∧ c.Ok ∧ e.Ok := ok
    have hd' : 1 + max (max a.deep b.deep) (max c.deep e.deep) ≤ d + 1 := hd
    have h1 := shown_len d a oa (by omega)
    have h2 := shown_len d b ob (by omega)
    have h3 := shown_len d c oc (by omega)
    have h4 := shown_len d e oe (by omega)
    have : (Tr.cho a b c e).d.shown = tupleText [a.d.shown, b.d.shown, c.d.shown, e.d.shown] := by
      conv => lhs; unfold Tr.d
      simp only [PyData.shown, PyData.shownAll]
    rw [this]
    refine Nat.le_trans (tupleText_len_le _) ?_
    simp only [List.map_cons, List.map_nil, List.sum_cons, List.sum_nil, List.length_cons, List.length_nil]
    show _ ≤ 4 * sB d + 90
    omega
theorem shown_small {t : Tr} (ok : t.Ok) (hd : t.deep ≤ 3) : t.d.shown.length ≤ sizeLine := Nat.le_trans (shown_len 3 t ok hd) (by decide)
end Z
set_option maxRecDepth 100000
set_option maxHeartbeats 4000000
namespace Z
open PySem PySem.Spec PyProof.Rows L2
section
variable {X : Cx} {CX : CXT} {k : Nat} {f C : Addr} {fd : FuncData} {ps : List Str} {sp : Sp} {E : L2.St → XK} {x m : Str} {p pos apos : Pos} {e o : Expr} {es : List Expr} {ta : TE} {t : TA}
def tMethX (C : Addr) (m : Str) (sp : Sp) (E : L2.St → XK) (ta : TE) (t : TA) : TE := fun σ H Q => ta σ H fun x H1 => ∃ a dx fs, x = .ref a ∧ H1 a = some (.ins C dx fs) ∧ fs.lookup m = none ∧ t σ H1 fun vs H2 => sp (x :: vs) H2 Q (E σ)
theorem pe_methX {pl : Sem Bool} (he : PE X o ta) (c : Cls X.K C) (hm : Meth X.K C m f) (F : FnOk X.prog X.w X.K X.mg X.base CX k f fd ps sp) (hr : Room k X.A) (hb : Binds X.K fd ps []) (hx : ∀ σ, PassesAt CX X σ (E σ)) (ha : PA X (e :: es) t)
    (hst : starEach (e :: es) X.env = (false, eval e X.env) :: starEach es X.env := by rfl) (hpl : (backTo pos (starEach es X.env)).any (·.1) = false := by rfl)
    (ht : eval (.Call (.Attribute o m apos) (e :: es) [] pos) X.env = (do
      let ov ← eval o X.env
      standAt apos.atName
      let (f, first) ← holding [ov] (getMethod ov m pl)
      callWith pos f first (backTo pos (starEach (e :: es) X.env)) (backToKw pos (keywordEach [] X.env))) := by rfl) :
    PE X (.Call (.Attribute o m apos) (e :: es) [] pos) (tMethX C m sp E ta t) := by
  refine ⟨fun pins s σ H Q I h => ?_⟩
  refine PySem.W.methodCall_KW (pl := pl) (thn (he.run pins s σ H _ I h) fun u s1 ⟨x, H1, I1, rx, a, dx, fs, ex, ea, l, q⟩ => ?_) ht
  subst ex
  obtain rfl : u = Value.ref a := rx
  refine getmeth_ok I1 ea c hm l ?_
  refine PySem.W.callWith_K (first := [.ref a]) (h₀ := X.base) I.ok.mod.kin hm.kp (thn (ha.run pos pins s1 σ H1 _ I1 q) fun us s2 ⟨vs, H2, I2, r, q2⟩ => ⟨I2.kIn, ?_⟩) hst hpl
  exact run_fnS (us := .ref a :: us) (vs := .ref a :: vs) F hr hb (hx σ) I2 (.cons rfl r) q2
theorem pe_gs {s : Str} (h : ∃ t, X.mg x = some (.str s t)) (hg : Gl X x := by rfl) (hd : (x == ("__debug__" : Str)) = false := by decide) : PE X (.Name x pos) (tC (.str s)) := by
  obtain ⟨t, h⟩ := h
  exact pe_glob hg h ⟨t, rfl⟩ hd
theorem pe_gi {s : Int} (h : ∃ t, X.mg x = some (.int s t)) (hg : Gl X x := by rfl) (hd : (x == ("__debug__" : Str)) = false := by decide) : PE X (.Name x pos) (tC (.int s)) := by
  obtain ⟨t, h⟩ := h
  exact pe_glob hg h ⟨t, rfl⟩ hd
theorem pe_gr {a : Addr} (h : X.mg x = some (.ref a)) (hg : Gl X x := by rfl) (hd : (x == ("__debug__" : Str)) = false := by decide) : PE X (.Name x pos) (tC (.ref a)) := pe_glob hg h rfl hd
end
theorem tyT {K : PySem.W.Frag} {H : Hp} {p : Addr} {xs : List V} (h : SqT K H p xs) : TyX K H (.ref p) (.type "tuple") := by
  rcases h with (h | ⟨o, h⟩) | ⟨o, vs, n, h, c, _⟩
  · exact .base (.tup h)
  · exact .fTuple h
  · exact .kTuple h c
def Tr.isT : Tr → Bool
  | .cho _ _ _ _ => true
  | _ => false
theorem k_tt : kitB "tuple" "tuple" = some true := by decide +kernel
theorem k_it : kitB "int" "tuple" = some false := by decide +kernel
theorem k_st : kitB "str" "tuple" = some false := by decide +kernel
theorem k_ii : kitB "int" "int" = some true := by decide +kernel
theorem k_ib : kitB "int" "bool" = some false := by decide +kernel
theorem k_si : kitB "str" "int" = some false := by decide +kernel
theorem k_ss : kitB "str" "str" = some true := by decide +kernel
theorem isiTr {K : PySem.W.Frag} {H : Hp} {t : Tr} {v : V} {Q : VK} (h : Dp K H v t.d) (q : Q (.bl t.isT) H) : rIsi K [v, .ty "tuple"] H Q ∨ rIsiT K [v, .ty "tuple"] H Q := by
  cases t with
  | con n =>
    obtain rfl := tr_con h
    exact isiTy (.base (.int n)) k_it q
  | var w =>
    obtain rfl := tr_var h
    exact isiTy (.base (.str w)) k_st q
  | cho a b c e =>
    obtain ⟨p, v1, v2, v3, v4, rfl, sq, _⟩ := tr_cho h
    exact isiTy (tyT sq) k_tt q
def Tr.Fine (t : Tr) : Prop := t.Ok ∧ t.deep ≤ 60
theorem word_strOk {w : Str} (h : Word w) : PyData.strOk w = true := by
  unfold PyData.strOk
  rw [← Array.all_toList, List.all_eq_true]
  intro c hc
  have := (h.2.2 c hc).2
  exact decide_eq_true (by omega)
theorem canLay_tr : ∀ t : Tr, t.Ok → PyData.canLay0 t.d = true
  | .con n, _ => by simp [Tr.d, PyData.canLay0]
  | .var w, ok => by
    have := word_strOk (show Word w from ok)
    simp [Tr.d, PyData.canLay0, this]
  | .cho a b c e, ok => by
    obtain ⟨oa, ob, oc, oe⟩ : a.Ok ∧ b.Ok ∧ c.Ok ∧ e.Ok := ok
    simp [Tr.d, PyData.canLay0, PyData.canLayAll0, canLay_tr a oa, canLay_tr b ob, canLay_tr c oc, canLay_tr e oe]
theorem shaped_tr {t : Tr} (h : t.Fine) : SeqAt.shaped t.d = true := by
  have h1 := canLay_tr t h.1
  have h2 := d_depth t
  have h3 := h.2
  unfold SeqAt.shaped
  rw [h1, Bool.true_and]
  exact decide_eq_true (by omega)
section
variable {X : Cx}
def rEqE (K : PySem.W.Frag) (neg : Bool) : R2 := fun x y H Q => ∃ a b xs, x = .ref a ∧ y = .ref b ∧ SqL K H a xs ∧ SqL K H b [] ∧ Q (.bl (if neg then !xs.isEmpty else xs.isEmpty)) H
theorem op_eqE (hu : X.A.units < cLine) : OpR X (compareOp .Eq) (rEqE X.K false) := by
  intro pins s σ H x y u v Q I rx ry ⟨a, b, xs, e1, e2, h1, h2, q⟩
  subst e1; subst e2
  cases rx
  cases ry
  obtain ⟨its, r, p, _⟩ := I.list h1
  obtain ⟨its2, r2, p2, _⟩ := I.list h2
  cases r2
  have hl : s.heap.IsList a its.toArray := by obtain ⟨o, n, e1, e2, e3, e4⟩ := p; exact ⟨_, e1, e2, n, e4⟩
  have hb : s.heap.IsList b #[] := by obtain ⟨o, n, e1, e2, e3, e4⟩ := p2; exact ⟨_, e1, e2, n, e4⟩
  cases r with
  | nil => exact SeqAt.RcAt.lists (e := fun _ => true) hl hb rfl hu (fun j h1 _ => absurd h1 (Nat.not_lt_zero _)) _ _ _ _ ⟨.bl true, H, I, rfl, q⟩
  | cons r1 r2 => exact SeqAt.RcAt.lists_lengths hl hb (by simp) hu _ _ _ _ ⟨.bl false, H, I, rfl, q⟩
theorem op_neE (hu : X.A.units < cLine) : OpR X (compareOp .NotEq) (rEqE X.K true) := by
  intro pins s σ H x y u v Q I rx ry ⟨a, b, xs, e1, e2, h1, h2, q⟩
  subst e1; subst e2
  cases rx
  cases ry
  obtain ⟨its, r, p, _⟩ := I.list h1
  obtain ⟨its2, r2, p2, _⟩ := I.list h2
  cases r2
  have hl : s.heap.IsList a its.toArray := by obtain ⟨o, n, e1, e2, e3, e4⟩ := p; exact ⟨_, e1, e2, n, e4⟩
  have hb : s.heap.IsList b #[] := by obtain ⟨o, n, e1, e2, e3, e4⟩ := p2; exact ⟨_, e1, e2, n, e4⟩
  cases r with
  | nil => exact SeqAt.RcNeAt.lists (e := fun _ => true) hl hb rfl hu (fun j h1 _ => absurd h1 (Nat.not_lt_zero _)) _ _ _ _ ⟨.bl false, H, I, rfl, q⟩
  | cons r1 r2 => exact SeqAt.RcNeAt.lists_lengths hl hb (by simp) hu _ _ _ _ ⟨.bl true, H, I, rfl, q⟩
structure rEqX (K : PySem.W.Frag) (x y : V) (H : Hp) (Q : VK) : Prop where
  h : rEq x y H Q ∨ rEqE K false x y H Q ∨ rEqD K x y H Q
structure rNeX (K : PySem.W.Frag) (x y : V) (H : Hp) (Q : VK) : Prop where
  h : rNe x y H Q ∨ rEqE K true x y H Q ∨ rNeD K x y H Q
theorem op_eqX {k : Nat} {K : PySem.W.Frag} (hr : Room k X.A) (hk : X.K = K := by rfl) : OpR X (compareOp .Eq) (rEqX K) := by
  subst hk
  exact OpR.box (OpR.or op_eq (OpR.or (op_eqE hr.units0) (op_eqD hr.units))) fun _ _ _ _ q => q.h
theorem op_neX {k : Nat} {K : PySem.W.Frag} (hr : Room k X.A) (hk : X.K = K := by rfl) : OpR X (compareOp .NotEq) (rNeX K) := by
  subst hk
  exact OpR.box (OpR.or op_ne (OpR.or (op_neE hr.units0) (op_neD hr.units))) fun _ _ _ _ q => q.h
theorem op_eqU {K : PySem.W.Frag} (hu : X.A.units + 64 < cLine) (hk : X.K = K := by rfl) : OpR X (compareOp .Eq) (rEqX K) := by
  subst hk
  exact OpR.box (OpR.or op_eq (OpR.or (op_eqE (Nat.lt_of_le_of_lt (Nat.le_add_right _ _) hu)) (op_eqD hu))) fun _ _ _ _ q => q.h
structure rIxA (K : PySem.W.Frag) (x y : V) (H : Hp) (Q : VK) : Prop where
  h : rIx K x y H Q
theorem IxR.box {r r' : R2} (h : IxR X r) (e : ∀ x y H Q, r' x y H Q → r x y H Q) : IxR X r' := fun a b pins s σ H x y v u Q I rx ry q => h a b pins s σ H x y v u Q I rx ry (e _ _ _ _ q)
theorem ix_A {K : PySem.W.Frag} (hk : X.K = K := by rfl) : IxR X (rIxA K) := by
  subst hk
  exact IxR.box ix_seq fun _ _ _ _ q => q.h
end
theorem eqI {K : PySem.W.Frag} {H : Hp} {Q : VK} {i j : Int} (q : Q (.bl (decide (i = j))) H) : rEqX K (.int i) (.int j) H Q := ⟨.inl ⟨rfl, by simpa using q⟩⟩
theorem neI {K : PySem.W.Frag} {H : Hp} {Q : VK} {i j : Int} (q : Q (.bl (!decide (i = j))) H) : rNeX K (.int i) (.int j) H Q := ⟨.inl ⟨rfl, by simpa using q⟩⟩
theorem eqS {K : PySem.W.Frag} {H : Hp} {Q : VK} {i j : Str} (q : Q (.bl (decide (i = j))) H) : rEqX K (.str i) (.str j) H Q := ⟨.inl ⟨rfl, by simpa using q⟩⟩
theorem neS {K : PySem.W.Frag} {H : Hp} {Q : VK} {i j : Str} (q : Q (.bl (!decide (i = j))) H) : rNeX K (.str i) (.str j) H Q := ⟨.inl ⟨rfl, by simpa using q⟩⟩
theorem neB {K : PySem.W.Frag} {H : Hp} {Q : VK} {i j : Bool} (q : Q (.bl (!decide (i = j))) H) : rNeX K (.bl i) (.bl j) H Q := ⟨.inl ⟨rfl, by simpa using q⟩⟩
theorem eqT {K : PySem.W.Frag} {H : Hp} {Q : VK} {x y : V} {s t : Tr} (h : Dp K H x s.d) (h' : Dp K H y t.d) (hs : s.Fine) (ht : t.Fine) (q : Q (.bl (decide (s = t))) H) : rEqX K x y H Q :=
  ⟨.inr (.inr ⟨_, _, h, h', shaped_tr hs, shaped_tr ht, by rw [eqv_tr]; exact q⟩)⟩
theorem eqL0 {K : PySem.W.Frag} {H : Hp} {Q : VK} {a b : Addr} {xs : List V} (ha : SqL K H a xs) (hb : H b = some (.lst [])) (q : Q (.bl xs.isEmpty) H) : rEqX K (.ref a) (.ref b) H Q := ⟨.inr (.inl ⟨a, b, xs, rfl, rfl, ha, .inl (.inl hb), q⟩)⟩
theorem neL0 {K : PySem.W.Frag} {H : Hp} {Q : VK} {a b : Addr} {xs : List V} (ha : SqL K H a xs) (hb : H b = some (.lst [])) (q : Q (.bl (!xs.isEmpty)) H) : rNeX K (.ref a) (.ref b) H Q := ⟨.inr (.inl ⟨a, b, xs, rfl, rfl, ha, .inl (.inl hb), q⟩)⟩
theorem atI_nat {α : Type} {xs : List α} {i : Nat} {v : α} (e : xs[i]? = some v) : atI xs (i : Int) = some v := by
  have h := (List.getElem?_eq_some_iff.mp e).1
  unfold atI ixN
  rw [if_pos (Int.natCast_nonneg _), if_pos (Int.ofNat_lt.mpr h)]
  simpa using e
theorem ixL {K : PySem.W.Frag} {H : Hp} {Q : VK} {a : Addr} {xs : List V} {i : Nat} {v : V} (h : SqL K H a xs) (e : xs[i]? = some v) (q : Q v H) : rIxA K (.ref a) (.int i) H Q := ⟨.inl ⟨a, xs, i, v, rfl, rfl, h, atI_nat e, q⟩⟩
theorem ixT {K : PySem.W.Frag} {H : Hp} {Q : VK} {a : Addr} {xs : List V} {i : Nat} {v : V} (h : SqT K H a xs) (e : xs[i]? = some v) (q : Q v H) : rIxA K (.ref a) (.int i) H Q := ⟨.inr (.inl ⟨a, xs, i, v, rfl, rfl, h, atI_nat e, q⟩)⟩
theorem ixS {K : PySem.W.Frag} {H : Hp} {Q : VK} {z : Str} {i : Nat} {c : Nat} (h : z.length ≤ sizeLine) (e : (ls z)[i]? = some c) (q : Q (.str (tx [c])) H) : rIxA K (.str z) (.int i) H Q := ⟨.inr (.inr ⟨z, i, c, rfl, rfl, h, atI_nat e, q⟩)⟩
end Z
set_option maxRecDepth 100000
set_option maxHeartbeats 4000000
namespace Z
open PySem PySem.Spec PyProof.Rows L2
section
variable {X : Cx}
def Flat1 (v : V) : Prop := (∃ s : Str, v = .str s) ∨ ∃ b : Bool, v = .bl b
structure rNeSame (K : PySem.W.Frag) (x y : V) (H : Hp) (Q : VK) : Prop where
  h : ∃ a b xs, x = .ref a ∧ y = .ref b ∧ SqL K H a xs ∧ SqL K H b xs ∧ (∀ v ∈ xs, Flat1 v) ∧ Q (.bl false) H
theorem op_neSame {k : Nat} {K : PySem.W.Frag} (hr : Room k X.A) (hk : X.K = K := by rfl) : OpR X (compareOp .NotEq) (rNeSame K) := by
  subst hk
  intro pins s σ H x y u v Q I rx ry ⟨a, b, xs, e1, e2, h1, h2, fl, q⟩
  subst e1; subst e2
  cases rx
  cases ry
  obtain ⟨its, r, p, _⟩ := I.list h1
  obtain ⟨its2, r2, p2, _⟩ := I.list h2
  have hl : s.heap.IsList a its.toArray := by obtain ⟨o, n, e1, e2, e3, e4⟩ := p; exact ⟨_, e1, e2, n, e4⟩
  have hb : s.heap.IsList b its2.toArray := by obtain ⟨o, n, e1, e2, e3, e4⟩ := p2; exact ⟨_, e1, e2, n, e4⟩
  have hsz : its.toArray.size = its2.toArray.size := by rw [List.size_toArray, List.size_toArray, ← r.length, ← r2.length]
  have := SeqAt.RcNeAt.lists (A := X.A) (e := fun _ => true) hl hb hsz hr.units0 (fun j j1 j2 => by
    have hj : j < xs.length := by rw [r.length]; simpa using j1
    have g : xs[j]? = some xs[j] := by simp [hj]
    obtain ⟨u1, z1, w1⟩ := r.get g
    obtain ⟨u2, z2, w2⟩ := r2.get g
    have q1 : its.toArray[j] = u1 := by
      rw [List.getElem_toArray]
      exact Option.some.inj ((List.getElem?_eq_getElem _).symm.trans z1)
    have q2 : its2.toArray[j] = u2 := by
      rw [List.getElem_toArray]
      exact Option.some.inj ((List.getElem?_eq_getElem _).symm.trans z2)
    rw [q1, q2]
    rcases fl _ (List.getElem_mem hj) with ⟨y, e⟩ | ⟨y, e⟩
    · rw [e] at w1 w2
      obtain ⟨t1, rfl⟩ := w1
      obtain ⟨t2, rfl⟩ := w2
      have := SeqAt.EqAt.str_str (A := X.A.in1) (s := s) y t1 y t2
      rwa [beq_self_eq_true] at this
    · rw [e] at w1 w2
      obtain rfl : u1 = Value.bool y := w1
      obtain rfl : u2 = Value.bool y := w2
      have := SeqAt.EqAt.bool_bool (A := X.A.in1) (s := s) y y
      rwa [beq_self_eq_true] at this) X.prog X.w X.xe
  refine this _ ?_
  refine ⟨.bl false, H, I, ?_, q⟩
  show Value.bool _ = Value.bool false
  congr 1
  simp
theorem neSame {K : PySem.W.Frag} {a b : Addr} {xs : List V} {H : Hp} {Q : VK} (h1 : SqL K H a xs) (h2 : SqL K H b xs) (fl : ∀ v ∈ xs, Flat1 v) (q : Q (.bl false) H) : rNeSame K (.ref a) (.ref b) H Q := ⟨a, b, xs, rfl, rfl, h1, h2, fl, q⟩
theorem fold_cps (l : List (Array Nat)) : ∀ acc : Array Nat, (l.foldl (· ++ ·) acc).toList = acc.toList ++ (l.map Array.toList).flatten := by
  induction l with
  | nil => intro acc; simp
  | cons x l ih => intro acc; rw [List.foldl_cons, ih]; simp
theorem rep_sign (n c : Nat) : (List.replicate n (#[c] : Array Nat)).foldl (· ++ ·) #[] = (tx (List.replicate n c)).cps := by
  apply Array.toList_inj.mp
  rw [fold_cps]
  show _ = ls (tx (List.replicate n c))
  rw [ls_tx]
  induction n with
  | zero => rfl
  | succ n ih =>
    rw [List.replicate_succ, List.map_cons, List.flatten_cons]
    rw [List.replicate_succ]
    simp only [List.nil_append] at ih ⊢
    rw [ih]
    rfl
structure rMulSg (x y : V) (H : Hp) (Q : VK) : Prop where
  h : ∃ (c n : Nat), x = .str (tx [c]) ∧ y = .int (n : Nat) ∧ 2 ≤ n ∧ n ≤ sizeLine ∧ Q (.str (tx (List.replicate n c))) H
theorem op_mulSg : OpR X (binaryOp .Mult) rMulSg := by
  intro pins s σ H x y u v Q I rx ry ⟨c, n, e1, e2, h2, hn, q⟩
  subst e1; subst e2
  obtain ⟨t, rfl⟩ := rx
  obtain ⟨t', rfl⟩ := ry
  have sl := PySem.sizeLine_eq
  refine PySem.P.mul_str ?_ ?_ ?_ ?_
  · rw [decide_eq_false (by omega), decide_eq_false (by omega)]
    rfl
  · intro _ _
    rw [tx_len]
    have : (1 : Int) ≤ (2 ^ 63 - 1) / (n : Int) := by
      rw [Int.le_ediv_iff_mul_le (by omega)]
      omega
    show ¬ (((1 : Nat) : Int) > _)
    omega
  · intro _ _
    rw [tx_len]
    show decide (1 * n > sizeLine) = false
    exact decide_eq_false (by omega)
  · rw [if_neg (by omega), if_neg (by
      rw [tx_len]
      simp
      omega)]
    have e : (⟨(List.replicate ((n : Int)).toNat (tx [c]).cps).foldl (· ++ ·) #[]⟩ : Str) = tx (List.replicate n c) := by
      show (⟨(List.replicate n (#[c] : Array Nat)).foldl (· ++ ·) #[]⟩ : Str) = _
      rw [rep_sign]
    rw [e]
    exact ⟨by rw [tx_len, List.length_replicate]; exact hn, .str _, H, I.tok _, ⟨_, rfl⟩, q⟩
def rStrO (C : Addr) (sp : Sp) (E : XK) : List V → Hp → VK → Prop := fun xs H Q => ∃ p dx fs, xs = [.ref p] ∧ H p = some (.ins C dx fs) ∧ sp [.ref p] H (fun v H' => ∃ z, v = .str z ∧ Q (.str z) H') E
theorem call_strO {CX : CXT} {C f : Addr} {fd : FuncData} {ps : List Str} {sp : Sp} {E : XK} {n : Nat} (F : FnOk X.prog X.w X.K X.mg X.base CX n f fd ps sp) (hs : PySem.W.findIn X.K (.ref C) "__str__" = some (some (.ref f))) (hf : PySem.W.isFn X.K (.ref f) = true)
    (hb : Binds X.K fd ps []) (hx : Passes CX X E) (hr : Room (n + 2) X.A) : CallR X (.type "str") (rStrO C sp E) := by
  intro pins s σ H xs us Q I r ⟨p, dx, fs, e, hp, hsp⟩
  subst e
  obtain ⟨u, rfl, rx⟩ := vals1 r
  cases (show u = Value.ref p from rx)
  obtain ⟨mA, J, _⟩ := ins_get I.hok hp
  obtain ⟨od, J, _⟩ := J.look
  have hr2 : Room n X.A.in1.in1 := (hr.in1).in1
  refine PySem.W.kso_call hr2.units0 I.kIn J hs hf ?_
  have e0 : Env0 X.prog X.w X.K X.mg X.base X.A.in1.in1 X.stack s H := by
    have e := I.env0
    exact ⟨e.frames, e.mod, e.bs, e.bsz, e.funs, e.frf, e.hok, e.bare⟩
  have hl := F.len _ _ _ _ hsp
  have r2 : Vals [V.ref p] [Value.ref p] := .cons rfl .nil
  refine wpAny_call (codeAny_mono (F.run X.A.in1.in1 X.stack s H ⟨[.ref p], []⟩ [.ref p] [.ref p] _ E hr2 e0 (by
    have := hb s [.ref p] I.kIn (by simpa using hl)
    simpa using this) r2 hsp) fun r s' hq => ?_)
  cases r with
  | error e => exact hx pins σ H s e s' I hq
  | ok fl =>
    cases fl with
    | ret w =>
      obtain ⟨v, H', I', rz, z, ez, ex⟩ := I.after hq
      subst ez
      obtain ⟨t, rfl⟩ := rz
      exact ⟨.str z, H', I', ⟨t, rfl⟩, ex⟩
    | next => exact False.elim hq
    | brk => exact False.elim hq
    | cont => exact False.elim hq
theorem ans_yes {K : PySem.W.Frag} {x t c : Value} {P : Heap → Prop} (ty : ∀ (M : Model) (h : Heap), K.In h → P h → PySem.W.Looks M h (typeOf x) t) (e : PySem.W.kitOne K t c = some true) : Answers (fun s => K.In s.heap ∧ P s.heap) x c true := by
  intro dep tk prog w A R st hs
  obtain ⟨hp, gg, dd, tt, oo⟩ := st
  obtain ⟨⟨kin, pp⟩, done⟩ := hs
  have look := ty (model prog w) hp kin pp
  unfold PySem.W.kitOne at e
  unfold Builtin.«isinstance.nested»
  refine wpAny_bind (look.at ?_)
  by_cases same : (t == c) = true
  · rw [if_pos same]
    exact wpAny_bind (wpAny_rule (wpAny_pure (done tt)))
  · rw [if_neg same] at e
    rw [if_neg same]
    obtain ⟨q1, q2, q3⟩ := PySem.W.kit_cls (M := model prog w) kin e
    have both : PySem.W.Looks (model prog w) hp (isInstance x c) true := look.andThen q3
    refine wpAny_bind (q1.at ?_)
    rw [if_pos (by decide)]
    k_delta "plainIsInstance"
    refine wpAny_bind (wpAny_bind (q2.at ?_))
    simp only [Bool.not_true, Bool.false_eq_true, if_false]
    refine wpAny_bind (both.at ?_)
    exact wpAny_pure (wpAny_pure (done tt))
def rIsY (K : PySem.W.Frag) (D a : Addr) : List V → Hp → VK → Prop := fun xs H Q => ∃ C : Addr, xs = [.ref a, .ref C] ∧ PySem.W.kitOne K (.ref D) (.ref C) = some true ∧ Q (.bl true) H
theorem call_isY {a D : Addr} {oe : Obj} {pn : List (Addr × Obj)} {cls : Value} {d : Option Addr} (hz : Zc cls d oe) (hcls : cls = .ref D) : CallR (X.suite a ((a, oe) :: pn)) (.builtin "isinstance") (rIsY X.K D a) := by
  intro pins s σ H xs us Q I r ⟨C, e, hk, q⟩
  subst e
  obtain ⟨u1, u2, rfl, r1, r2⟩ := vals2 r
  cases (show u1 = Value.ref a from r1)
  cases (show u2 = Value.ref C from r2)
  obtain ⟨hget, _⟩ := I.pin (a, oe) (List.mem_append.mpr (.inl List.mem_cons_self))
  refine call_isinstance (S := fun _ R s => (X.K.In s.heap ∧ s.heap.get? a = some oe) ∧ ∀ tk, R (.ok (.ret (.bool true))) { s with toks := tk })
    (fun prog w A R s hs => isinstance_outer (ans_yes (K := X.K) (P := fun h => h.get? a = some oe) (fun M h _ hp => ?_) hk 0 _ prog w A R s hs) (fun z => nomatch z)) ⟨⟨I.kIn, hget⟩, fun tk => ⟨.bl true, H, I.kept (t' := tk) fun _ _ z => z, rfl, q⟩⟩
  have e1 : oe.cls = .ref D := by rw [← hcls]; exact hz.1
  rw [← e1]
  exact (PySem.W.Looks.ld (part := none) hp).andThen .now
end
end Z
set_option maxRecDepth 100000
set_option maxHeartbeats 4000000
namespace Z
open PySem PySem.Spec PyProof.Rows L2
section
variable {X : Cx}
def tFmtO (C : Addr) (sp : Sp) (E : XK) (te : TE) : TE := fun σ H Q => te σ H fun x H1 => ∃ p dx fs, x = .ref p ∧ H1 p = some (.ins C dx fs) ∧ sp [.ref p] H1 (fun v H2 => ∃ z, v = .str z ∧ Q (.str z) H2) E
theorem pe_fmtO {CX : CXT} {C f : Addr} {fd : FuncData} {ps : List Str} {sp : Sp} {E : XK} {n : Nat} {e : Expr} {te : TE} {pos : Pos} (F : FnOk X.prog X.w X.K X.mg X.base CX n f fd ps sp)
    (hs : PySem.W.findIn X.K (.ref C) "__str__" = some (some (.ref f))) (hf : PySem.W.isFn X.K (.ref f) = true) (hfm : PySem.W.findIn X.K (.ref C) "__format__" = some (some (.builtin "object.__format__"))) (hm : PySem.W.mroIn X.K C (.type "object") = some true)
    (hb : Binds X.K fd ps []) (hx : Passes CX X E) (hr : Room (n + 1) X.A) (he : PE X e te) : PE X (.FormattedValue e (-1) none pos) (tFmtO C sp E te) := by
  refine ⟨fun pins s σ H Q I h => ?_⟩
  refine wpAny_FormattedValue_plain (thn (he.run pins s σ H _ I h) fun u s1 ⟨x, H1, I1, r1, p, dx, fs, ex, hp, hsp⟩ => ?_)
  subst ex
  obtain rfl : u = Value.ref p := r1
  obtain ⟨mA, J, _⟩ := ins_get I1.hok hp
  obtain ⟨od, J, _⟩ := J.look
  have r2 : Room n X.A.in1 := hr.in1
  have I2 := I1.tok (s1.toks + 1)
  have hl := F.len _ _ _ _ hsp
  have rv : Vals [V.ref p] [Value.ref p] := .cons rfl .nil
  refine PySem.W.kfo_fieldS r2.units0 I2.kIn J hfm hm hs hf ?_
  refine wpAny_call (codeAny_mono (F.run X.A.in1 X.stack { s1 with toks := s1.toks + 1 } H1 ⟨[.ref p], []⟩ [.ref p] [.ref p] _ E r2 I2.env0.in1 (by
    have := hb { s1 with toks := s1.toks + 1 } [.ref p] I2.kIn (by simpa using hl)
    simpa using this) rv hsp) fun r s' hq => ?_)
  cases r with
  | error er => exact (hx pins σ H1 _ er s' I2 hq)
  | ok fl =>
    cases fl with
    | ret w =>
      obtain ⟨v, H', I', rz, z, ez, ex⟩ := I2.after hq
      subst ez
      obtain ⟨t, rfl⟩ := rz
      exact ⟨.str z, H', I', ⟨t, rfl⟩, ex⟩
    | next => exact False.elim hq
    | brk => exact False.elim hq
    | cont => exact False.elim hq
end
end Z
set_option maxRecDepth 100000
set_option maxHeartbeats 4000000
namespace Z
open PySem PySem.Spec PyProof.Rows L2 LamX
def OnlyT (P : Addr) (H : Hp) : Prop := H P = some (.tbl #[]) ∧ ∀ b, b ≠ P → H b = none ∨ ∃ o xs, H b = some (.frz o (.lst xs))
section
variable {prog : Program} {w : World} {K : PySem.W.Frag} {mg mb : Str → Option Value} {CX : CXT}
theorem law_GT {k : Nat} {fa a c P : Addr} {fd : FuncData} {x : Str} {sp : Sp} {s1 : Shared} {vs : List Value} {ns : List Int}
    (hin : K.In s1.heap) (glob : s1.heap.Ns mainGlobals mg) (blt : s1.heap.Ns builtinsNs mb) (bb : ∀ x : Str, x ≠ "__name__" → mb x = bootBuiltins x) (lim : s1.heap.NoLimit) (bare : s1.gens = #[])
    (tab : s1.heap.get? P = some { cls := .none, data := .fields #[] }) (noK : K.lookup P = none) (code : PySem.W.CodeHd s1.heap c P)
    (bmod : ∃ (bm : Addr) (ob : Obj), mg "__builtins__" = some (.ref bm) ∧ bm ≠ builtinsNs ∧ s1.heap.get? bm = some ob ∧ ob.cls = .type "module" ∧ ob.dict = some builtinsNs ∧ ob.data = .plain)
    (scr : s1.heap.get? a = some { cls := .type "list", data := .seq vs.toArray }) (its : IntsAre vs ns) (few : ns.length ≤ sizeLine) (room : Room k callerA)
    (F : ∀ base : Heap, K.In base → base.Ns mainGlobals mg → TabB base mg c P → FnG prog w K mg base CX k fa fd [x] sp) (bd : ∀ (s : Shared) (u : Value), BindsTo s fd ⟨[u], []⟩ [(x, u)])
    (wish : ∀ H : Hp, OnlyT P H → SqL K H a (ns.map V.int) → sp [.ref a] H (fun v _ => v = .bl true) fun _ _ _ => False)
    (none_out : ∀ H e s', CX [] H s1 (fun _ _ _ => False) e s' → False) :
    codeAny (model prog w) callerA (.call (.ref fa) ⟨[.ref a], []⟩) (fun r s' => r = .ok (.ret (.bool true)) ∧ OldK s1.heap s'.heap ∧ s'.os = s1.os ∧ AllBare s'.gens) s1 := by
  have rv := vals_ints its
  have aP : a ≠ P := fun z => by
    rw [z, tab] at scr
    have d : Data.fields #[] = Data.seq vs.toArray _ := congrArg Obj.data (Option.some.inj scr)
    cases d
  have go : ∀ H : Hp, OnlyT P H → SqL K H a (ns.map V.int) → HOk prog w H s1.heap → (∀ b u, H b = some u → b = P ∨ (b = a ∧ K.lookup a = none)) →
      codeAny (model prog w) callerA (.call (.ref fa) ⟨[.ref a], []⟩) (fun r s' => r = .ok (.ret (.bool true)) ∧ OldK s1.heap s'.heap ∧ s'.os = s1.os ∧ AllBare s'.gens) s1 := by
    intro H only sq ok at_
    have free : ∀ {b : Addr} {o : Obj}, s1.heap.get? b = some o → (∀ us n, o.data ≠ .seq us n) → o.data ≠ .fields #[] → H b = none := fun {b o} e n1 n2 => by
      cases q : H b with
      | none => rfl
      | some u =>
        rcases at_ b u q with rfl | ⟨rfl, _⟩
        · rw [tab] at e
          cases e
          exact (n2 rfl).elim
        · rw [scr] at e
          cases e
          exact (n1 _ _ rfl).elim
    have ns_ : ∀ {b : Addr} {m : Str → Option Value}, s1.heap.Ns b m → (hidT s1.heap H).Ns b m := fun {b m} ⟨o, es, ep, e, d, r⟩ =>
      ⟨o, es, ep, hidT_get e (free e (fun us n z => by rw [d] at z; cases z) fun z => by rw [d] at z; cases z), d, r⟩
    have kin : K.In (hidT s1.heap H) := fun b o e => hidT_get (hin b o e) (by
      cases q : H b with
      | none => rfl
      | some u =>
        rcases at_ b u q with rfl | ⟨rfl, z⟩
        · rw [noK] at e
          cases e
        · rw [z] at e
          cases e)
    have TB : TabB (hidT s1.heap H) mg c P := by
      refine ⟨?_, ?_, fun z => ?_⟩
      · obtain ⟨o, us, file, tf, flags, tg, inF, text, tt, e1, r1, r2, r3, r⟩ := code
        refine ⟨o, us, file, tf, flags, tg, inF, text, tt, hidT_get e1 (free e1 (fun vs n z => ?_) fun z => ?_), r1, r2, r3, r⟩
        · rw [r2] at z
          cases z
        · rw [r2] at z
          cases z
          simp at r3
      · obtain ⟨bm, ob, b1, b2, b3, b4, b5, b6⟩ := bmod
        refine ⟨bm, ob, b1, b2, fun q => ?_, fun q => ?_, hidT_get b3 (free b3 (fun vs n z => ?_) fun z => ?_), b4, b5, b6⟩
        · obtain ⟨o, es, ep, e, d, _⟩ := glob
          rw [q, e] at b3
          cases b3
          rw [d] at b6
          cases b6
        · rw [q, tab] at b3
          cases b3
          cases b6
        · rw [b6] at z
          cases z
        · rw [b6] at z
          cases z
      · obtain ⟨o, es, ep, e, d, _⟩ := glob
        rw [z, tab] at e
        cases e
        cases d
    have e0 : Env0 prog w K mg (hidT s1.heap H) callerA [] s1 H :=
      ⟨rfl, ⟨kin, ns_ glob, ⟨mb, ns_ blt, bb⟩, lim.imp fun _ q => ⟨ns_ q.1, q.2⟩⟩, fun b o e => of_hidT e, Nat.le_of_eq (hidT_size _ _), trivial, fun b hb => (List.not_mem_nil hb).elim, ok, .of_eq bare⟩
    refine codeAny_mono ((F _ kin (ns_ glob) TB).run callerA [] s1 H ⟨[.ref a], []⟩ [.ref a] [.ref a] _ _ room rfl e0 (bd s1 (.ref a)) (.cons rfl .nil) (wish H only sq)) fun r s' out => ?_
    match r, out with
    | .error e, out => exact (none_out H e s' out).elim
    | .ok .next, out => exact out.elim
    | .ok .brk, out => exact out.elim
    | .ok .cont, out => exact out.elim
    | .ok (.ret u), ⟨v, H', os, gens, un, ok', r', q⟩ =>
      have q' : v = V.bl true := q
      subst q'
      obtain rfl : u = Value.bool true := r'
      have key : ∀ b o, b ≠ P → s1.heap.get? b = some o → s'.heap.get? b = some o := fun b o nb e => by
        cases hb : H b with
        | none => exact un.keep b o e hb List.not_mem_nil List.not_mem_nil
        | some u =>
          rcases only.2 b nb with z | ⟨ob, xs, z⟩
          · rw [z] at hb
            cases hb
          · have z2 := (ok' b _ (un.frzs b ob _ z)).1
            rw [(ok b _ z).1] at e
            cases e
            exact z2
      obtain ⟨more, grown⟩ : ∃ more : Array Value, s'.heap.get? P = some { cls := .none, data := .fields more } := by
        obtain ⟨more, z⟩ := un.tbls P #[] only.1
        exact ⟨_, ok' P _ z⟩
      refine ⟨rfl, ⟨fun b o e => ?_, fun b o e => ?_⟩, os, gens⟩
      · by_cases hb : b = P
        · subst hb
          rw [tab] at e
          cases e
          exact .inr (.inl ⟨(code.tab tab).isCodeTable, rfl, #[], more, rfl, by rw [Array.empty_append]; exact grown⟩)
        · exact .inl (key b o hb e)
      · by_cases hb : b = P
        · subst hb
          exact ⟨_, grown⟩
        · exact ⟨o, key b o hb e⟩
  cases hk : K.lookup a with
  | some o =>
    have e := hin a o hk
    rw [scr] at e
    cases e
    have at_P : ∀ b u, (if b = P then some (HO.tbl #[]) else none) = some u → b = P ∧ u = HO.tbl #[] := fun b u z => by
      split at z
      · exact ⟨by assumption, (Option.some.inj z).symm⟩
      · cases z
    refine go (fun b => if b = P then some (.tbl #[]) else none) ⟨if_pos rfl, fun b hb => .inl (if_neg hb)⟩ (.inr ⟨_, vs.toArray, _, hk, rfl, rfl, rfl, by rw [List.size_toArray, its.length]; exact few, by simpa using rv⟩) (fun b u z => ?_) fun b u z => .inl (at_P b u z).1
    obtain ⟨rfl, rfl⟩ := at_P b u z
    exact tab
  | none =>
    have at_a : ∀ b u, (if b = P then some (HO.tbl #[]) else if b = a then some (HO.frz { cls := .type "list", data := .seq vs.toArray } (.lst (ns.map V.int))) else none) = some u → (b = P ∧ u = HO.tbl #[]) ∨ (b = a ∧ u = HO.frz { cls := .type "list", data := .seq vs.toArray } (.lst (ns.map V.int))) := fun b u z => by
      split at z
      · exact .inl ⟨by assumption, (Option.some.inj z).symm⟩
      · split at z
        · exact .inr ⟨by assumption, (Option.some.inj z).symm⟩
        · cases z
    refine go (fun b => if b = P then some (.tbl #[]) else if b = a then some (.frz { cls := .type "list", data := .seq vs.toArray } (.lst (ns.map V.int))) else none) ⟨if_pos rfl, fun b hb => ?_⟩ (.inl (.inr ⟨_, (if_neg aP).trans (if_pos rfl)⟩)) (fun b u z => ?_) fun b u z => (at_a b u z).imp (fun q => q.1) fun q => ⟨q.1, hk⟩
    · by_cases hb2 : b = a
      · exact .inr ⟨_, _, (if_neg hb).trans (if_pos hb2)⟩
      · exact .inl ((if_neg hb).trans (if_neg hb2))
    · rcases at_a b u z with ⟨rfl, rfl⟩ | ⟨rfl, rfl⟩
      · exact tab
      · exact ⟨scr, by rw [List.length_map]; exact few, vs, _, rv, scr⟩
theorem okGC {x qual : Str} {st : Stmt} {f : Addr} {fd : FuncData} {N ps : List Str} {k : Nat} {sp : Sp} {base : Heap} (F : Fun K x qual st f fd) (S : FnScope N ps (defScope st)) (len : ∀ vs H Q E, sp vs H Q E → vs.length = ps.length)
    (hbody : ∀ (A : Around) (outer : List Env) (s : Shared) (H : Hp) (vs : List V) (Q : VK) (E : XK), Room k (A.deeper (envOfC qual (defScope st) s.heap.objs.size f fd.code)) → A.guards = some [] → sp vs H Q E →
      ∃ t, PSs (cxOf CX prog w K mg base N qual (defScope st) f fd.code A outer s H E) (defBody st) t ∧ t { nx := fun _ H' => Q .non H', rt := Q } (start N vs) H) : FnG prog w K mg base CX (k + 1) f fd ps sp := by
  obtain ⟨oc, od, kV, doc, pm, an, cdv, ct, osl, rfl, lk, code⟩ := F.ex
  have F2 : Fun K x qual st f (PySem.W.fnOf x qual (defArgs st) (defBody st) (defScope st) .none kV doc pm an cdv ct) := F
  refine ⟨len, fun A outer s H args us vs Q E room gu e0 bd rv wish => ?_⟩
  have hin : K.In s.heap := e0.mod.kin.keeps fun b o e => (e0.bs b o e).1
  have big : s.heap.NoLimit := e0.mod.nolimit.keeps fun b o e => (e0.bs b o e).1
  have count := len vs H Q E wish
  refine codeAny_call_function room.depth (hin _ _ lk) rfl S.co S.gen rfl (PySem.W.codeRec_of hin code) (bd _ _ _ _ ?_)
  refine wpAny_newFunctionEnv_cells S.kind (fun y hy => ?_) fun env he s1 y => ?_
  · exact (S.par y.1 (List.of_mem_zip hy).1).imp id fun q => ⟨q, PySem.W.cellsFrom_some _ _ _ (.inl q)⟩
  · subst he
    refine ⟨big.keeps y.toInCall.keep, codeAny_func ?_⟩
    obtain ⟨t, der, rd⟩ := hbody A outer s H vs Q E (room.deeper _) gu wish
    refine wpAny_mono (der.run [] s1 (start N vs) H _ (inv_start S room.hd e0 count rv y) rd) (fun fl s' out => ?_) fun _ _ out => out
    match fl, out with
    | .ret u, ⟨v, _, H', J, r, q⟩ => exact ⟨v, H', J.os, J.bare, J.base, J.hok, r, q⟩
    | .next, ⟨_, H', J, q⟩ => exact ⟨.non, H', J.os, J.bare, J.base, J.hok, rfl, q⟩
    | .brk, ⟨_, _, _, q⟩ => exact q.elim
    | .cont, ⟨_, _, _, q⟩ => exact q.elim
end
theorem walkGT {l : PySem.W.OpenLaw} {n k : Nat} {q : Program} {loose : List Str} {XP : (Str → Option Value) → Heap → Prop} {YP : World → Heap → Prop} {d : DefRec} {K : Params → PySem.W.Frag} {CX : World → CXT} {sp : World → Addr → Addr → Sp} {x : Str}
    (hn : l.most = some n) (hn2 : n ≤ sizeLine) (hdf : d.params.defaults = []) (hr : Room k callerA) (hrec : ((recsOf q).any fun e => e.name == d.name) = true)
    (hY : ∀ (w : World) (h : Heap), YP w h → (K w.params).In h)
    (F : ∀ (w : World) (mg : Str → Option Value) (fa : Addr) (h : Heap), (K w.params).In h → h.Ns mainGlobals mg → mg d.name = some (.ref fa) → OwnTab (K w.params) fa h →
      ∃ (fd : FuncData) (c P : Addr), (∀ (s : Shared) (u : Value), BindsTo s fd ⟨[u], []⟩ [(x, u)]) ∧ h.get? P = some { cls := .none, data := .fields #[] } ∧ (K w.params).lookup P = none ∧ PySem.W.CodeHd h c P ∧
        ∀ base : Heap, (K w.params).In base → base.Ns mainGlobals mg → TabB base mg c P → FnG l.prog w (K w.params) mg base (CX w) k fa fd [x] (sp w c P))
    (hsp : ∀ (w : World) (H : Hp) (a c P : Addr) (ns : List Int), ns.length ≤ n → (∀ z ∈ ns, Builtin.Int.intBits z ≤ 1048576) → OnlyT P H → SqL (K w.params) H a (ns.map V.int) → sp w c P [.ref a] H (fun v _ => v = .bl true) fun _ _ _ => False)
    (hCX : ∀ (w : World) (H : Hp) (s : Shared) (e : Value) (s' : Shared), CX w [] H s (fun _ _ _ => False) e s' → False) :
    PySem.W.WalkO q loose XP YP l.row.toRowW d [] (fun f vs => PySem.call f vs) := by
  refine Att.attach_callB hn hdf fun w s₀ s₁ mg mb fa o pm cd doc a vs ns G Y ho hd hcd hmg hobj hints hlen hbits hg => ?_
  have kin := hY w _ Y
  have own : OwnTab (K w.params) fa s₁.heap := by
    intro c P o1 fd1 e dd vs1 sl k1 k2 k3 k4 k5
    obtain ⟨dL, hm, same⟩ := List.any_eq_true.mp hrec
    have same2 : dL.name = d.name := beq_iff_eq.mp same
    obtain ⟨a2, o2, fd2, c2, P2, h1, h2, h3, h4, h5, ⟨⟨oc, vc, e1, _, e3, e4⟩, hP⟩⟩ := G.T.tab dL hm
    rw [same2, hmg] at h1
    cases h1
    have g1 := kin _ _ k1
    rw [g1] at h2
    cases h2
    rw [k2] at h3
    cases h3
    rw [k3] at h4
    cases h4
    have g2 := kin _ _ k4
    rw [g2] at e1
    cases e1
    cases e3
    rw [k5] at e4
    cases e4
    exact hP
  obtain ⟨fd, c, P, hb, tab, noK, code, hF⟩ := F w mg fa _ kin G.T.g hmg own
  exact law_GT kin G.T.g G.T.b G.T.builtins G.T.nolimit hg tab noK code G.T.bmain hobj hints (Nat.le_trans hlen hn2) hr hF hb (fun H hO hS => hsp w H a c P ns hlen hbits hO hS) fun H e s' => hCX w H s₁ e s'
end Z
set_option maxRecDepth 100000
set_option maxHeartbeats 4000000
namespace Z
open PySem PySem.Spec PyProof.Rows L2
def topS (i : Nat) : Stmt := PySem.Challenge.pw_tiedsteps_k06_deeds_told_and_refused.main.body.getD i (.Pass ⟨0, 0, 0, 0⟩)
abbrev s_is_whole : Stmt := topS 10
theorem sc_is_whole : FnScope ["value"] ["value"] (defScope s_is_whole) := ⟨rfl, rfl, rfl, by decide +kernel, rfl, by decide +kernel, by decide +kernel⟩
abbrev s_is_number : Stmt := topS 11
theorem sc_is_number : FnScope ["value", "low", "high"] ["value", "low", "high"] (defScope s_is_number) := ⟨rfl, rfl, rfl, by decide +kernel, rfl, by decide +kernel, by decide +kernel⟩
abbrev s_is_word : Stmt := topS 12
theorem sc_is_word : FnScope ["value", "sign"] ["value"] (defScope s_is_word) := ⟨rfl, rfl, rfl, by decide +kernel, rfl, by decide +kernel, by decide +kernel⟩
abbrev s_is_digit : Stmt := topS 13
theorem sc_is_digit : FnScope ["value"] ["value"] (defScope s_is_digit) := ⟨rfl, rfl, rfl, by decide +kernel, rfl, by decide +kernel, by decide +kernel⟩
abbrev s_word_at : Stmt := topS 20
theorem sc_word_at : FnScope ["text", "at", "last"] ["text", "at"] (defScope s_word_at) := ⟨rfl, rfl, rfl, by decide +kernel, rfl, by decide +kernel, by decide +kernel⟩
abbrev s_plan_at : Stmt := topS 21
theorem sc_plan_at : FnScope ["text", "at", "deep", "word", "parts", "sign", "found", "part"] ["text", "at", "deep"] (defScope s_plan_at) := ⟨rfl, rfl, rfl, by decide +kernel, rfl, by decide +kernel, by decide +kernel⟩
abbrev s_text_of : Stmt := topS 23
theorem sc_text_of : FnScope ["plan", "one", "other", "same", "unlike", "part"] ["plan"] (defScope s_text_of) := ⟨rfl, rfl, rfl, by decide +kernel, rfl, by decide +kernel, by decide +kernel⟩
abbrev s_stands_in : Stmt := topS 26
theorem sc_stands_in : FnScope ["plan", "whole", "part"] ["plan", "whole"] (defScope s_stands_in) := ⟨rfl, rfl, rfl, by decide +kernel, rfl, by decide +kernel, by decide +kernel⟩
abbrev s_plan_of : Stmt := topS 27
theorem sc_plan_of : FnScope ["value", "found"] ["value"] (defScope s_plan_of) := ⟨rfl, rfl, rfl, by decide +kernel, rfl, by decide +kernel, by decide +kernel⟩
abbrev s_Term___init__ : Stmt := inClass (topS 28) 0
theorem sc_Term___init__ : FnScope ["self", "value", "plan"] ["self", "value"] (defScope s_Term___init__) := ⟨rfl, rfl, rfl, by decide +kernel, rfl, by decide +kernel, by decide +kernel⟩
abbrev s_Term_choice : Stmt := inClass (topS 28) 1
theorem sc_Term_choice : FnScope ["one", "other", "same", "unlike", "plans", "value", "plan"] ["one", "other", "same", "unlike"] (defScope s_Term_choice) := ⟨rfl, rfl, rfl, by decide +kernel, rfl, by decide +kernel, by decide +kernel⟩
abbrev s_Term___str__ : Stmt := inClass (topS 28) 2
theorem sc_Term___str__ : FnScope ["self"] ["self"] (defScope s_Term___str__) := ⟨rfl, rfl, rfl, by decide +kernel, rfl, by decide +kernel, by decide +kernel⟩
abbrev s_Term_parts : Stmt := inClass (topS 28) 7
theorem sc_Term_parts : FnScope ["self", "part"] ["self"] (defScope s_Term_parts) := ⟨rfl, rfl, rfl, by decide +kernel, rfl, by decide +kernel, by decide +kernel⟩
abbrev s_Term___eq__ : Stmt := inClass (topS 28) 12
theorem sc_Term___eq__ : FnScope ["self", "other"] ["self", "other"] (defScope s_Term___eq__) := ⟨rfl, rfl, rfl, by decide +kernel, rfl, by decide +kernel, by decide +kernel⟩
abbrev s_Term_within : Stmt := inClass (topS 28) 13
theorem sc_Term_within : FnScope ["self", "other"] ["self", "other"] (defScope s_Term_within) := ⟨rfl, rfl, rfl, by decide +kernel, rfl, by decide +kernel, by decide +kernel⟩
abbrev s_deed_parts : Stmt := topS 32
theorem sc_deed_parts : FnScope ["text", "sign", "late", "parts"] ["text"] (defScope s_deed_parts) := ⟨rfl, rfl, rfl, by decide +kernel, rfl, by decide +kernel, by decide +kernel⟩
abbrev s_Deed___init__ : Stmt := inClass (topS 33) 0
theorem sc_Deed___init__ : FnScope ["self", "variable", "term", "late"] ["self", "variable", "term", "late"] (defScope s_Deed___init__) := ⟨rfl, rfl, rfl, by decide +kernel, rfl, by decide +kernel, by decide +kernel⟩
abbrev s_Deed_of : Stmt := inClass (topS 33) 1
theorem sc_Deed_of : FnScope ["text", "parts", "variable", "term", "late"] ["text"] (defScope s_Deed_of) := ⟨rfl, rfl, rfl, by decide +kernel, rfl, by decide +kernel, by decide +kernel⟩
abbrev s_Deed_variable : Stmt := inClass (topS 33) 2
theorem sc_Deed_variable : FnScope ["self"] ["self"] (defScope s_Deed_variable) := ⟨rfl, rfl, rfl, by decide +kernel, rfl, by decide +kernel, by decide +kernel⟩
abbrev s_Deed_term : Stmt := inClass (topS 33) 3
theorem sc_Deed_term : FnScope ["self"] ["self"] (defScope s_Deed_term) := ⟨rfl, rfl, rfl, by decide +kernel, rfl, by decide +kernel, by decide +kernel⟩
abbrev s_Deed_late : Stmt := inClass (topS 33) 4
theorem sc_Deed_late : FnScope ["self"] ["self"] (defScope s_Deed_late) := ⟨rfl, rfl, rfl, by decide +kernel, rfl, by decide +kernel, by decide +kernel⟩
abbrev s_Deed_delayed : Stmt := inClass (topS 33) 5
theorem sc_Deed_delayed : FnScope ["self"] ["self"] (defScope s_Deed_delayed) := ⟨rfl, rfl, rfl, by decide +kernel, rfl, by decide +kernel, by decide +kernel⟩
abbrev s_Deed___str__ : Stmt := inClass (topS 33) 6
theorem sc_Deed___str__ : FnScope ["self", "sign"] ["self"] (defScope s_Deed___str__) := ⟨rfl, rfl, rfl, by decide +kernel, rfl, by decide +kernel, by decide +kernel⟩
abbrev s_Deed___eq__ : Stmt := inClass (topS 33) 7
theorem sc_Deed___eq__ : FnScope ["self", "other"] ["self", "other"] (defScope s_Deed___eq__) := ⟨rfl, rfl, rfl, by decide +kernel, rfl, by decide +kernel, by decide +kernel⟩
abbrev s__law_pool : Stmt := topS 35
theorem sc__law_pool : FnScope ["script", "k", "cell", "size", "mixed"] ["script", "k"] (defScope s__law_pool) := ⟨rfl, rfl, rfl, by decide +kernel, rfl, by decide +kernel, by decide +kernel⟩
abbrev s__law_take : Stmt := topS 36
theorem sc__law_take : FnScope ["pool", "bound", "result"] ["pool", "bound"] (defScope s__law_take) := ⟨rfl, rfl, rfl, by decide +kernel, rfl, by decide +kernel, by decide +kernel⟩
abbrev s__law_one : Stmt := topS 37
theorem sc__law_one : FnScope ["pool", "things"] ["pool", "things"] (defScope s__law_one) := ⟨rfl, rfl, rfl, by decide +kernel, rfl, by decide +kernel, by decide +kernel⟩
abbrev s__law_words : Stmt := topS 38
theorem sc__law_words : FnScope ["pool", "bound", "letters", "first", "stride", "head", "tail", "turn", "spot"] ["pool", "bound"] (defScope s__law_words) := ⟨rfl, rfl, rfl, by decide +kernel, rfl, by decide +kernel, by decide +kernel⟩
abbrev s__law_tree : Stmt := topS 39
theorem sc__law_tree : FnScope ["pool", "words", "digits", "deep", "part"] ["pool", "words", "digits", "deep"] (defScope s__law_tree) := ⟨rfl, rfl, rfl, by decide +kernel, rfl, by decide +kernel, by decide +kernel⟩
abbrev s__law_tree_text : Stmt := topS 40
theorem sc__law_tree_text : FnScope ["tree", "near", "far", "yes", "no", "part"] ["tree"] (defScope s__law_tree_text) := ⟨rfl, rfl, rfl, by decide +kernel, rfl, by decide +kernel, by decide +kernel⟩
abbrev s__law_deed_text : Stmt := topS 41
theorem sc__law_deed_text : FnScope ["deed"] ["deed"] (defScope s__law_deed_text) := ⟨rfl, rfl, rfl, by decide +kernel, rfl, by decide +kernel, by decide +kernel⟩
abbrev s__law_deeds_drawn : Stmt := topS 42
theorem sc__law_deeds_drawn : FnScope ["pool", "written", "words", "digits", "bound", "deep", "found", "turn", "tree"] ["pool", "written", "words", "digits", "bound", "deep"] (defScope s__law_deeds_drawn) := ⟨rfl, rfl, rfl, by decide +kernel, rfl, by decide +kernel, by decide +kernel⟩
abbrev s__law_told : Stmt := topS 43
theorem sc__law_told : FnScope ["deed"] ["deed"] (defScope s__law_told) := ⟨rfl, rfl, rfl, by decide +kernel, rfl, by decide +kernel, by decide +kernel⟩
abbrev s__law_tried : Stmt := topS 44
theorem sc__law_tried : FnScope ["function", "e"] ["function"] (defScope s__law_tried) := ⟨rfl, rfl, rfl, by decide +kernel, rfl, by decide +kernel, by decide +kernel⟩
abbrev s__law_is_term : Stmt := topS 45
theorem sc__law_is_term : FnScope ["text"] ["text"] (defScope s__law_is_term) := ⟨rfl, rfl, rfl, by decide +kernel, rfl, by decide +kernel, by decide +kernel⟩
abbrev s__law_is_word : Stmt := topS 46
theorem sc__law_is_word : FnScope ["thing", "sign"] ["thing"] (defScope s__law_is_word) := ⟨rfl, rfl, rfl, by decide +kernel, rfl, by decide +kernel, by decide +kernel⟩
abbrev s__law_due : Stmt := topS 47
theorem sc__law_due : FnScope ["text", "sign", "is_late", "parts"] ["text"] (defScope s__law_due) := ⟨rfl, rfl, rfl, by decide +kernel, rfl, by decide +kernel, by decide +kernel⟩
abbrev s__law_bent : Stmt := topS 48
theorem sc__law_bent : FnScope ["pool", "text", "sign", "spot"] ["pool", "text"] (defScope s__law_bent) := ⟨rfl, rfl, rfl, by decide +kernel, rfl, by decide +kernel, by decide +kernel⟩
abbrev s_law : Stmt := topS 49
theorem sc_law : FnScope ["script", "k", "pool", "words", "entries", "deeds", "near", "entry", "text", "tree", "turn", "bent", "thing", "far", "other"] ["script"] (defScope s_law) := ⟨rfl, rfl, rfl, by decide +kernel, rfl, by decide +kernel, by decide +kernel⟩
structure Ad where
  C_TiedError : Addr
  C_NoTerm : Addr
  i_NoTerm : Addr
  C_NoDeed : Addr
  i_NoDeed : Addr
  f_is_whole : Addr
  d_is_whole : FuncData
  f_is_number : Addr
  d_is_number : FuncData
  f_is_word : Addr
  d_is_word : FuncData
  f_is_digit : Addr
  d_is_digit : FuncData
  v_SIGNS : Addr
  f_word_at : Addr
  d_word_at : FuncData
  f_plan_at : Addr
  d_plan_at : FuncData
  f_text_of : Addr
  d_text_of : FuncData
  f_stands_in : Addr
  d_stands_in : FuncData
  f_plan_of : Addr
  d_plan_of : FuncData
  C_Term : Addr
  f_Term___init__ : Addr
  d_Term___init__ : FuncData
  f_Term_choice : Addr
  d_Term_choice : FuncData
  p_Term_choice : Addr
  f_Term___str__ : Addr
  d_Term___str__ : FuncData
  f_Term_parts : Addr
  d_Term_parts : FuncData
  f_Term___eq__ : Addr
  d_Term___eq__ : FuncData
  f_Term_within : Addr
  d_Term_within : FuncData
  f_deed_parts : Addr
  d_deed_parts : FuncData
  C_Deed : Addr
  f_Deed___init__ : Addr
  d_Deed___init__ : FuncData
  f_Deed_of : Addr
  d_Deed_of : FuncData
  p_Deed_of : Addr
  f_Deed_variable : Addr
  d_Deed_variable : FuncData
  p_Deed_variable : Addr
  f_Deed_term : Addr
  d_Deed_term : FuncData
  p_Deed_term : Addr
  f_Deed_late : Addr
  d_Deed_late : FuncData
  p_Deed_late : Addr
  f_Deed_delayed : Addr
  d_Deed_delayed : FuncData
  f_Deed___str__ : Addr
  d_Deed___str__ : FuncData
  f_Deed___eq__ : Addr
  d_Deed___eq__ : FuncData
  f__law_pool : Addr
  d__law_pool : FuncData
  f__law_take : Addr
  d__law_take : FuncData
  f__law_one : Addr
  d__law_one : FuncData
  f__law_words : Addr
  d__law_words : FuncData
  f__law_tree : Addr
  d__law_tree : FuncData
  f__law_tree_text : Addr
  d__law_tree_text : FuncData
  f__law_deed_text : Addr
  d__law_deed_text : FuncData
  f__law_deeds_drawn : Addr
  d__law_deeds_drawn : FuncData
  f__law_told : Addr
  d__law_told : FuncData
  f__law_tried : Addr
  d__law_tried : FuncData
  f__law_is_term : Addr
  d__law_is_term : FuncData
  f__law_is_word : Addr
  d__law_is_word : FuncData
  f__law_due : Addr
  d__law_due : FuncData
  f__law_bent : Addr
  d__law_bent : FuncData
  f_law : Addr
  d_law : FuncData
  cc_law : Addr
  P_law : Addr
structure Tx (P : Program) (K : PySem.W.Frag) (mg : Str → Option Value) (a : Ad) : Prop where
  g_TiedError : mg "TiedError" = some (.ref a.C_TiedError)
  te_NoTerm : PySem.W.exmOne K (.ref a.C_NoTerm) (.ref a.C_NoTerm) = some true
  kb_NoTerm_TiedError : PySem.W.kitOne K (.ref a.C_NoTerm) (.ref a.C_TiedError) = some true
  e_NoTerm : Tied P K mg "NoTerm" "value" "NoTerm.__init__" a.C_NoTerm a.i_NoTerm
  te_NoDeed : PySem.W.exmOne K (.ref a.C_NoDeed) (.ref a.C_NoDeed) = some true
  kb_NoDeed_TiedError : PySem.W.kitOne K (.ref a.C_NoDeed) (.ref a.C_TiedError) = some true
  e_NoDeed : Tied P K mg "NoDeed" "value" "NoDeed.__init__" a.C_NoDeed a.i_NoDeed
  v_LETTERS : ∃ t, mg "LETTERS" = some (.str "abcdefghijklmnopqrstuvwxyz" t)
  v_DIGITS : ∃ t, mg "DIGITS" = some (.str "0123456789" t)
  v_MOST_LETTERS : ∃ t, mg "MOST_LETTERS" = some (.int 8 t)
  is_whole : Df K mg "is_whole" s_is_whole ["value"] a.f_is_whole a.d_is_whole
  is_number : Df K mg "is_number" s_is_number ["value", "low", "high"] a.f_is_number a.d_is_number
  is_word : Df K mg "is_word" s_is_word ["value"] a.f_is_word a.d_is_word
  is_digit : Df K mg "is_digit" s_is_digit ["value"] a.f_is_digit a.d_is_digit
  v_MOST_DEPTH : ∃ t, mg "MOST_DEPTH" = some (.int 3 t)
  v_MOST_CONSTANT : ∃ t, mg "MOST_CONSTANT" = some (.int 9 t)
  v_SIGNS : mg "SIGNS" = some (.ref a.v_SIGNS)
  w_SIGNS : ∀ H : Hp, SqT K H a.v_SIGNS [.str "(", .str "=", .str "?", .str ":", .str ")"]
  word_at : Df K mg "word_at" s_word_at ["text", "at"] a.f_word_at a.d_word_at
  plan_at : Df K mg "plan_at" s_plan_at ["text", "at", "deep"] a.f_plan_at a.d_plan_at
  text_of : Df K mg "text_of" s_text_of ["plan"] a.f_text_of a.d_text_of
  stands_in : Df K mg "stands_in" s_stands_in ["plan", "whole"] a.f_stands_in a.d_stands_in
  plan_of : Df K mg "plan_of" s_plan_of ["value"] a.f_plan_of a.d_plan_of
  g_Term : mg "Term" = some (.ref a.C_Term)
  c_Term : Cls K a.C_Term
  kp_Term : PySem.W.keepIn K (.ref a.C_Term) = true
  ty_Term : PySem.W.findIn K (.ref a.C_Term) "__class__" = some (some (.builtin "object.__class__"))
  mo_Term : PySem.W.mroIn K a.C_Term (.type "object") = some true
  kit_Term_NoneType : PySem.W.kitOne K (.type "NoneType") (.ref a.C_Term) = some false
  kit_Term_bool : PySem.W.kitOne K (.type "bool") (.ref a.C_Term) = some false
  kit_Term_int : PySem.W.kitOne K (.type "int") (.ref a.C_Term) = some false
  kit_Term_str : PySem.W.kitOne K (.type "str") (.ref a.C_Term) = some false
  kit_Term_list : PySem.W.kitOne K (.type "list") (.ref a.C_Term) = some false
  kit_Term_tuple : PySem.W.kitOne K (.type "tuple") (.ref a.C_Term) = some false
  kit_Term_dict : PySem.W.kitOne K (.type "dict") (.ref a.C_Term) = some false
  kit_Term : PySem.W.kitOne K (.ref a.C_Term) (.ref a.C_Term) = some true
  Term___init__ : Fun K "__init__" "Term.__init__" s_Term___init__ a.f_Term___init__ a.d_Term___init__
  b_Term___init__ : Binds K a.d_Term___init__ ["self", "value"] []
  mk_Term : Mk K a.C_Term a.f_Term___init__
  Term_choice : Fun K "choice" "Term.choice" s_Term_choice a.f_Term_choice a.d_Term_choice
  b_Term_choice : Binds K a.d_Term_choice ["one", "other", "same", "unlike"] []
  m_Term_choice : CSta K a.C_Term (.type "type") "choice" a.p_Term_choice a.f_Term_choice
  Term___str__ : Fun K "__str__" "Term.__str__" s_Term___str__ a.f_Term___str__ a.d_Term___str__
  b_Term___str__ : Binds K a.d_Term___str__ ["self"] []
  m_Term___str__ : Meth K a.C_Term "__str__" a.f_Term___str__
  fm_Term : PySem.W.findIn K (.ref a.C_Term) "__format__" = some (some (.builtin "object.__format__"))
  Term_parts : Fun K "parts" "Term.parts" s_Term_parts a.f_Term_parts a.d_Term_parts
  b_Term_parts : Binds K a.d_Term_parts ["self"] []
  m_Term_parts : Meth K a.C_Term "parts" a.f_Term_parts
  Term___eq__ : Fun K "__eq__" "Term.__eq__" s_Term___eq__ a.f_Term___eq__ a.d_Term___eq__
  b_Term___eq__ : Binds K a.d_Term___eq__ ["self", "other"] []
  m_Term___eq__ : Meth K a.C_Term "__eq__" a.f_Term___eq__
  nf_Term : PySem.W.notFirst K a.C_Term (.type "str") = true
  ne_Term : PySem.W.findIn K (.ref a.C_Term) "__ne__" = some (some (.builtin "object.__ne__"))
  Term_within : Fun K "within" "Term.within" s_Term_within a.f_Term_within a.d_Term_within
  b_Term_within : Binds K a.d_Term_within ["self", "other"] []
  m_Term_within : Meth K a.C_Term "within" a.f_Term_within
  no_Term_tree : NoAttr K a.C_Term "tree"
  v_AT_ONCE : ∃ t, mg "AT_ONCE" = some (.str " := " t)
  v_AT_THE_END : ∃ t, mg "AT_THE_END" = some (.str " <= " t)
  deed_parts : Df K mg "deed_parts" s_deed_parts ["text"] a.f_deed_parts a.d_deed_parts
  g_Deed : mg "Deed" = some (.ref a.C_Deed)
  c_Deed : Cls K a.C_Deed
  kp_Deed : PySem.W.keepIn K (.ref a.C_Deed) = true
  ty_Deed : PySem.W.findIn K (.ref a.C_Deed) "__class__" = some (some (.builtin "object.__class__"))
  mo_Deed : PySem.W.mroIn K a.C_Deed (.type "object") = some true
  kit_Deed_NoneType : PySem.W.kitOne K (.type "NoneType") (.ref a.C_Deed) = some false
  kit_Deed_bool : PySem.W.kitOne K (.type "bool") (.ref a.C_Deed) = some false
  kit_Deed_int : PySem.W.kitOne K (.type "int") (.ref a.C_Deed) = some false
  kit_Deed_str : PySem.W.kitOne K (.type "str") (.ref a.C_Deed) = some false
  kit_Deed_list : PySem.W.kitOne K (.type "list") (.ref a.C_Deed) = some false
  kit_Deed_tuple : PySem.W.kitOne K (.type "tuple") (.ref a.C_Deed) = some false
  kit_Deed_dict : PySem.W.kitOne K (.type "dict") (.ref a.C_Deed) = some false
  kit_Deed : PySem.W.kitOne K (.ref a.C_Deed) (.ref a.C_Deed) = some true
  Deed___init__ : Fun K "__init__" "Deed.__init__" s_Deed___init__ a.f_Deed___init__ a.d_Deed___init__
  kb_Deed___init__ : KBn K a.d_Deed___init__ ["self", "variable", "term", "late"] 3 ["late"] (fun us ws => us ++ ws) (fun vs zs => vs ++ zs)
  kd_Deed___init__ : ∃ ds, Vals [.bl false] ds ∧ Binds K a.d_Deed___init__ ["self", "variable", "term", "late"] ds
  mk_Deed : Mk K a.C_Deed a.f_Deed___init__
  Deed_of : Fun K "of" "Deed.of" s_Deed_of a.f_Deed_of a.d_Deed_of
  b_Deed_of : Binds K a.d_Deed_of ["text"] []
  m_Deed_of : CSta K a.C_Deed (.type "type") "of" a.p_Deed_of a.f_Deed_of
  Deed_variable : Fun K "variable" "Deed.variable" s_Deed_variable a.f_Deed_variable a.d_Deed_variable
  b_Deed_variable : Binds K a.d_Deed_variable ["self"] []
  p_Deed_variable : PropOf K a.C_Deed "variable" a.p_Deed_variable a.f_Deed_variable
  Deed_term : Fun K "term" "Deed.term" s_Deed_term a.f_Deed_term a.d_Deed_term
  b_Deed_term : Binds K a.d_Deed_term ["self"] []
  p_Deed_term : PropOf K a.C_Deed "term" a.p_Deed_term a.f_Deed_term
  Deed_late : Fun K "late" "Deed.late" s_Deed_late a.f_Deed_late a.d_Deed_late
  b_Deed_late : Binds K a.d_Deed_late ["self"] []
  p_Deed_late : PropOf K a.C_Deed "late" a.p_Deed_late a.f_Deed_late
  Deed_delayed : Fun K "delayed" "Deed.delayed" s_Deed_delayed a.f_Deed_delayed a.d_Deed_delayed
  b_Deed_delayed : Binds K a.d_Deed_delayed ["self"] []
  m_Deed_delayed : Meth K a.C_Deed "delayed" a.f_Deed_delayed
  Deed___str__ : Fun K "__str__" "Deed.__str__" s_Deed___str__ a.f_Deed___str__ a.d_Deed___str__
  b_Deed___str__ : Binds K a.d_Deed___str__ ["self"] []
  m_Deed___str__ : Meth K a.C_Deed "__str__" a.f_Deed___str__
  fm_Deed : PySem.W.findIn K (.ref a.C_Deed) "__format__" = some (some (.builtin "object.__format__"))
  Deed___eq__ : Fun K "__eq__" "Deed.__eq__" s_Deed___eq__ a.f_Deed___eq__ a.d_Deed___eq__
  b_Deed___eq__ : Binds K a.d_Deed___eq__ ["self", "other"] []
  m_Deed___eq__ : Meth K a.C_Deed "__eq__" a.f_Deed___eq__
  nf_Deed : PySem.W.notFirst K a.C_Deed (.type "str") = true
  ne_Deed : PySem.W.findIn K (.ref a.C_Deed) "__ne__" = some (some (.builtin "object.__ne__"))
  no_Deed_is_late : NoAttr K a.C_Deed "is_late"
  no_Deed_source : NoAttr K a.C_Deed "source"
  no_Deed_target : NoAttr K a.C_Deed "target"
  _law_pool : Df K mg "_law_pool" s__law_pool ["script", "k"] a.f__law_pool a.d__law_pool
  _law_take : Df K mg "_law_take" s__law_take ["pool", "bound"] a.f__law_take a.d__law_take
  _law_one : Df K mg "_law_one" s__law_one ["pool", "things"] a.f__law_one a.d__law_one
  _law_words : Df K mg "_law_words" s__law_words ["pool", "bound"] a.f__law_words a.d__law_words
  _law_tree : Df K mg "_law_tree" s__law_tree ["pool", "words", "digits", "deep"] a.f__law_tree a.d__law_tree
  _law_tree_text : Df K mg "_law_tree_text" s__law_tree_text ["tree"] a.f__law_tree_text a.d__law_tree_text
  _law_deed_text : Df K mg "_law_deed_text" s__law_deed_text ["deed"] a.f__law_deed_text a.d__law_deed_text
  _law_deeds_drawn : Df K mg "_law_deeds_drawn" s__law_deeds_drawn ["pool", "written", "words", "digits", "bound", "deep"] a.f__law_deeds_drawn a.d__law_deeds_drawn
  _law_told : Df K mg "_law_told" s__law_told ["deed"] a.f__law_told a.d__law_told
  _law_tried : Df K mg "_law_tried" s__law_tried ["function"] a.f__law_tried a.d__law_tried
  _law_is_term : Df K mg "_law_is_term" s__law_is_term ["text"] a.f__law_is_term a.d__law_is_term
  _law_is_word : Df K mg "_law_is_word" s__law_is_word ["thing"] a.f__law_is_word a.d__law_is_word
  _law_due : Df K mg "_law_due" s__law_due ["text"] a.f__law_due a.d__law_due
  _law_bent : Df K mg "_law_bent" s__law_bent ["pool", "text"] a.f__law_bent a.d__law_bent
  cv_law : a.d_law.code = .ref a.cc_law
  np_law : K.lookup a.P_law = none
  co_law : ∀ h : Heap, K.In h → PySem.W.CodeHd h a.cc_law a.P_law
  ta_law : ∀ h : Heap, LamX.OwnTab K a.f_law h → h.get? a.P_law = some { cls := .none, data := .fields #[] }
  law : Df K mg "law" s_law ["script"] a.f_law a.d_law
  blaw : ∀ (s : Shared) (u : Value), BindsTo s a.d_law ⟨[u], []⟩ [("script", u)]
  bi : Bi mg
  tn : PySem.W.specialIn K (.builtin "object.__class__") "__get__" = some (some (.builtin "getset_descriptor.__get__"))
  tt : PySem.W.takesIn K (.builtin "object.__class__") = some true
theorem tx_mk {P : Program} {K : PySem.W.Frag} {h : Heap} {mg : Str → Option Value} (X : K.In h) (G : h.Ns mainGlobals mg)
    {C_TiedError : Addr}
    {C_NoTerm N_NoTerm i_NoTerm : Addr} {nm_NoTerm q_NoTerm : Str} {bs_NoTerm bm_NoTerm su_NoTerm : List Value} {sn_NoTerm : List Str} {ab_NoTerm : Bool} {co_NoTerm : Option Bool} {dd_NoTerm : Option Addr} {k0_NoTerm k1_NoTerm k2_NoTerm k3_NoTerm k5_NoTerm : Option Value} {oc_NoTerm kV_NoTerm dc_NoTerm pm_NoTerm ct_NoTerm : Value} {od_NoTerm an_NoTerm : Option Addr} {cda_NoTerm cc_NoTerm : Addr} {sl_NoTerm : Array (Option Value)} {m_NoTerm : Str} {j_NoTerm : Nat} {p1_NoTerm p2_NoTerm q0_NoTerm q1_NoTerm q2_NoTerm q3_NoTerm q4_NoTerm q5_NoTerm r1_NoTerm r2_NoTerm r3_NoTerm r4_NoTerm : Pos} {ccl_NoTerm cl_NoTerm : Value} {cdd_NoTerm cld_NoTerm : Option Addr} {vs_NoTerm : Array Value} {ccs_NoTerm csl_NoTerm : Array (Option Value)} {file_NoTerm : Str} {tf_NoTerm : Tok}
    {C_NoDeed N_NoDeed i_NoDeed : Addr} {nm_NoDeed q_NoDeed : Str} {bs_NoDeed bm_NoDeed su_NoDeed : List Value} {sn_NoDeed : List Str} {ab_NoDeed : Bool} {co_NoDeed : Option Bool} {dd_NoDeed : Option Addr} {k0_NoDeed k1_NoDeed k2_NoDeed k3_NoDeed k5_NoDeed : Option Value} {oc_NoDeed kV_NoDeed dc_NoDeed pm_NoDeed ct_NoDeed : Value} {od_NoDeed an_NoDeed : Option Addr} {cda_NoDeed cc_NoDeed : Addr} {sl_NoDeed : Array (Option Value)} {m_NoDeed : Str} {j_NoDeed : Nat} {p1_NoDeed p2_NoDeed q0_NoDeed q1_NoDeed q2_NoDeed q3_NoDeed q4_NoDeed q5_NoDeed r1_NoDeed r2_NoDeed r3_NoDeed r4_NoDeed : Pos} {ccl_NoDeed cl_NoDeed : Value} {cdd_NoDeed cld_NoDeed : Option Addr} {vs_NoDeed : Array Value} {ccs_NoDeed csl_NoDeed : Array (Option Value)} {file_NoDeed : Str} {tf_NoDeed : Tok}
    {t_LETTERS : Tok}
    {t_DIGITS : Tok}
    {t_MOST_LETTERS : Tok}
    {f_is_whole : Addr} {od_is_whole an_is_whole : Option Addr} {sl_is_whole : Array (Option Value)} {oc_is_whole kV_is_whole dc_is_whole pm_is_whole cd_is_whole ct_is_whole : Value}
    {f_is_number : Addr} {od_is_number an_is_number : Option Addr} {sl_is_number : Array (Option Value)} {oc_is_number kV_is_number dc_is_number pm_is_number cd_is_number ct_is_number : Value}
    {f_is_word : Addr} {od_is_word an_is_word : Option Addr} {sl_is_word : Array (Option Value)} {oc_is_word kV_is_word dc_is_word pm_is_word cd_is_word ct_is_word : Value}
    {f_is_digit : Addr} {od_is_digit an_is_digit : Option Addr} {sl_is_digit : Array (Option Value)} {oc_is_digit kV_is_digit dc_is_digit pm_is_digit cd_is_digit ct_is_digit : Value}
    {t_MOST_DEPTH : Tok}
    {t_MOST_CONSTANT : Tok}
    {v_SIGNS : Addr} {t0_SIGNS t1_SIGNS t2_SIGNS t3_SIGNS t4_SIGNS : Tok} {dd_SIGNS : Option Addr} {n_SIGNS : Nat} {sl_SIGNS : Array (Option Value)}
    {f_word_at : Addr} {od_word_at an_word_at : Option Addr} {sl_word_at : Array (Option Value)} {oc_word_at kV_word_at dc_word_at pm_word_at cd_word_at ct_word_at : Value}
    {f_plan_at : Addr} {od_plan_at an_plan_at : Option Addr} {sl_plan_at : Array (Option Value)} {oc_plan_at kV_plan_at dc_plan_at pm_plan_at cd_plan_at ct_plan_at : Value}
    {f_text_of : Addr} {od_text_of an_text_of : Option Addr} {sl_text_of : Array (Option Value)} {oc_text_of kV_text_of dc_text_of pm_text_of cd_text_of ct_text_of : Value}
    {f_stands_in : Addr} {od_stands_in an_stands_in : Option Addr} {sl_stands_in : Array (Option Value)} {oc_stands_in kV_stands_in dc_stands_in pm_stands_in cd_stands_in ct_stands_in : Value}
    {f_plan_of : Addr} {od_plan_of an_plan_of : Option Addr} {sl_plan_of : Array (Option Value)} {oc_plan_of kV_plan_of dc_plan_of pm_plan_of cd_plan_of ct_plan_of : Value}
    {C_Term : Addr}
    {f_Term___init__ : Addr} {od_Term___init__ an_Term___init__ : Option Addr} {sl_Term___init__ : Array (Option Value)} {oc_Term___init__ kV_Term___init__ dc_Term___init__ pm_Term___init__ cd_Term___init__ ct_Term___init__ : Value}
    {f_Term_choice : Addr} {od_Term_choice an_Term_choice : Option Addr} {sl_Term_choice : Array (Option Value)} {oc_Term_choice kV_Term_choice dc_Term_choice pm_Term_choice cd_Term_choice ct_Term_choice : Value}
    {p_Term_choice : Addr} {re_Term_choice : List Value}
    {f_Term___str__ : Addr} {od_Term___str__ an_Term___str__ : Option Addr} {sl_Term___str__ : Array (Option Value)} {oc_Term___str__ kV_Term___str__ dc_Term___str__ pm_Term___str__ cd_Term___str__ ct_Term___str__ : Value}
    {f_Term_parts : Addr} {od_Term_parts an_Term_parts : Option Addr} {sl_Term_parts : Array (Option Value)} {oc_Term_parts kV_Term_parts dc_Term_parts pm_Term_parts cd_Term_parts ct_Term_parts : Value}
    {f_Term___eq__ : Addr} {od_Term___eq__ an_Term___eq__ : Option Addr} {sl_Term___eq__ : Array (Option Value)} {oc_Term___eq__ kV_Term___eq__ dc_Term___eq__ pm_Term___eq__ cd_Term___eq__ ct_Term___eq__ : Value}
    {f_Term_within : Addr} {od_Term_within an_Term_within : Option Addr} {sl_Term_within : Array (Option Value)} {oc_Term_within kV_Term_within dc_Term_within pm_Term_within cd_Term_within ct_Term_within : Value}
    {t_AT_ONCE : Tok}
    {t_AT_THE_END : Tok}
    {f_deed_parts : Addr} {od_deed_parts an_deed_parts : Option Addr} {sl_deed_parts : Array (Option Value)} {oc_deed_parts kV_deed_parts dc_deed_parts pm_deed_parts cd_deed_parts ct_deed_parts : Value}
    {C_Deed : Addr}
    {f_Deed___init__ : Addr} {od_Deed___init__ an_Deed___init__ : Option Addr} {sl_Deed___init__ : Array (Option Value)} {oc_Deed___init__  dc_Deed___init__ pm_Deed___init__ cd_Deed___init__ ct_Deed___init__ : Value} {kD_Deed___init__ : Addr}
    {f_Deed_of : Addr} {od_Deed_of an_Deed_of : Option Addr} {sl_Deed_of : Array (Option Value)} {oc_Deed_of kV_Deed_of dc_Deed_of pm_Deed_of cd_Deed_of ct_Deed_of : Value}
    {p_Deed_of : Addr} {re_Deed_of : List Value}
    {f_Deed_variable : Addr} {od_Deed_variable an_Deed_variable : Option Addr} {sl_Deed_variable : Array (Option Value)} {oc_Deed_variable kV_Deed_variable dc_Deed_variable pm_Deed_variable cd_Deed_variable ct_Deed_variable : Value}
    {p_Deed_variable : Addr} {re_Deed_variable : List Value}
    {f_Deed_term : Addr} {od_Deed_term an_Deed_term : Option Addr} {sl_Deed_term : Array (Option Value)} {oc_Deed_term kV_Deed_term dc_Deed_term pm_Deed_term cd_Deed_term ct_Deed_term : Value}
    {p_Deed_term : Addr} {re_Deed_term : List Value}
    {f_Deed_late : Addr} {od_Deed_late an_Deed_late : Option Addr} {sl_Deed_late : Array (Option Value)} {oc_Deed_late kV_Deed_late dc_Deed_late pm_Deed_late cd_Deed_late ct_Deed_late : Value}
    {p_Deed_late : Addr} {re_Deed_late : List Value}
    {f_Deed_delayed : Addr} {od_Deed_delayed an_Deed_delayed : Option Addr} {sl_Deed_delayed : Array (Option Value)} {oc_Deed_delayed kV_Deed_delayed dc_Deed_delayed pm_Deed_delayed cd_Deed_delayed ct_Deed_delayed : Value}
    {f_Deed___str__ : Addr} {od_Deed___str__ an_Deed___str__ : Option Addr} {sl_Deed___str__ : Array (Option Value)} {oc_Deed___str__ kV_Deed___str__ dc_Deed___str__ pm_Deed___str__ cd_Deed___str__ ct_Deed___str__ : Value}
    {f_Deed___eq__ : Addr} {od_Deed___eq__ an_Deed___eq__ : Option Addr} {sl_Deed___eq__ : Array (Option Value)} {oc_Deed___eq__ kV_Deed___eq__ dc_Deed___eq__ pm_Deed___eq__ cd_Deed___eq__ ct_Deed___eq__ : Value}
    {f__law_pool : Addr} {od__law_pool an__law_pool : Option Addr} {sl__law_pool : Array (Option Value)} {oc__law_pool kV__law_pool dc__law_pool pm__law_pool cd__law_pool ct__law_pool : Value}
    {f__law_take : Addr} {od__law_take an__law_take : Option Addr} {sl__law_take : Array (Option Value)} {oc__law_take kV__law_take dc__law_take pm__law_take cd__law_take ct__law_take : Value}
    {f__law_one : Addr} {od__law_one an__law_one : Option Addr} {sl__law_one : Array (Option Value)} {oc__law_one kV__law_one dc__law_one pm__law_one cd__law_one ct__law_one : Value}
    {f__law_words : Addr} {od__law_words an__law_words : Option Addr} {sl__law_words : Array (Option Value)} {oc__law_words kV__law_words dc__law_words pm__law_words cd__law_words ct__law_words : Value}
    {f__law_tree : Addr} {od__law_tree an__law_tree : Option Addr} {sl__law_tree : Array (Option Value)} {oc__law_tree kV__law_tree dc__law_tree pm__law_tree cd__law_tree ct__law_tree : Value}
    {f__law_tree_text : Addr} {od__law_tree_text an__law_tree_text : Option Addr} {sl__law_tree_text : Array (Option Value)} {oc__law_tree_text kV__law_tree_text dc__law_tree_text pm__law_tree_text cd__law_tree_text ct__law_tree_text : Value}
    {f__law_deed_text : Addr} {od__law_deed_text an__law_deed_text : Option Addr} {sl__law_deed_text : Array (Option Value)} {oc__law_deed_text kV__law_deed_text dc__law_deed_text pm__law_deed_text cd__law_deed_text ct__law_deed_text : Value}
    {f__law_deeds_drawn : Addr} {od__law_deeds_drawn an__law_deeds_drawn : Option Addr} {sl__law_deeds_drawn : Array (Option Value)} {oc__law_deeds_drawn kV__law_deeds_drawn dc__law_deeds_drawn pm__law_deeds_drawn cd__law_deeds_drawn ct__law_deeds_drawn : Value}
    {f__law_told : Addr} {od__law_told an__law_told : Option Addr} {sl__law_told : Array (Option Value)} {oc__law_told kV__law_told dc__law_told pm__law_told cd__law_told ct__law_told : Value}
    {f__law_tried : Addr} {od__law_tried an__law_tried : Option Addr} {sl__law_tried : Array (Option Value)} {oc__law_tried kV__law_tried dc__law_tried pm__law_tried cd__law_tried ct__law_tried : Value}
    {f__law_is_term : Addr} {od__law_is_term an__law_is_term : Option Addr} {sl__law_is_term : Array (Option Value)} {oc__law_is_term kV__law_is_term dc__law_is_term pm__law_is_term cd__law_is_term ct__law_is_term : Value}
    {f__law_is_word : Addr} {od__law_is_word an__law_is_word : Option Addr} {sl__law_is_word : Array (Option Value)} {oc__law_is_word kV__law_is_word dc__law_is_word pm__law_is_word cd__law_is_word ct__law_is_word : Value}
    {f__law_due : Addr} {od__law_due an__law_due : Option Addr} {sl__law_due : Array (Option Value)} {oc__law_due kV__law_due dc__law_due pm__law_due cd__law_due ct__law_due : Value}
    {f__law_bent : Addr} {od__law_bent an__law_bent : Option Addr} {sl__law_bent : Array (Option Value)} {oc__law_bent kV__law_bent dc__law_bent pm__law_bent cd__law_bent ct__law_bent : Value}
    {f_law : Addr} {od_law an_law : Option Addr} {sl_law : Array (Option Value)} {oc_law kV_law dc_law pm_law ct_law : Value} {cc_law P_law : Addr} {vs_law : Array Value} {dd_law : Option Addr} {s2_law : Array (Option Value)}
    (h_g_TiedError : PySem.W.nsIn K mainGlobals "TiedError" = some (some (.ref C_TiedError)))
    (h_g_NoTerm : PySem.W.nsIn K mainGlobals "NoTerm" = some (some (.ref C_NoTerm)))
    (h_l_NoTerm : K.lookup C_NoTerm = some (excClassObj nm_NoTerm q_NoTerm C_NoTerm N_NoTerm bs_NoTerm bm_NoTerm true sn_NoTerm su_NoTerm ab_NoTerm co_NoTerm dd_NoTerm k0_NoTerm k1_NoTerm k2_NoTerm k3_NoTerm k5_NoTerm "ValueError.__new__"))
    (h_r_NoTerm : PySem.HandSPX.refsVE bm_NoTerm = true)
    (h_s_NoTerm : PySem.W.findIn K (.ref C_NoTerm) "__setattr__" = some (some (.builtin "object.__setattr__")))
    (h_n_NoTerm : PySem.W.findIn K (.ref C_NoTerm) "value" = some none)
    (h_i_NoTerm : PySem.W.findIn K (.ref C_NoTerm) "__init__" = some (some (.ref i_NoTerm)))
    (h_t_NoTerm : PySem.W.typeIn K (.ref i_NoTerm) = some (.type "function"))
    (h_k_NoTerm : PySem.W.keepIn K (.ref C_NoTerm) = true)
    (h_x_NoTerm : PySem.W.subIn K (.ref C_NoTerm) (.type "BaseException") = some true)
    (h_v_NoTerm : PySem.W.subIn K (.ref C_NoTerm) (.type "ValueError") = some true)
    (h_y_NoTerm : PySem.W.typeIn K (.ref C_NoTerm) = some (.type "type"))
    (h_xf_NoTerm : xfB K C_NoTerm = true)
    (h_fn_NoTerm : K.lookup i_NoTerm = some ⟨oc_NoTerm, od_NoTerm, .func (PySem.W.fnX "__init__" "NoTerm.__init__" (xiA "value" p1_NoTerm p2_NoTerm) (xiB "value" m_NoTerm j_NoTerm q0_NoTerm q1_NoTerm q2_NoTerm q3_NoTerm q4_NoTerm q5_NoTerm r1_NoTerm r2_NoTerm r3_NoTerm r4_NoTerm) (xiS "value") [("__class__", cc_NoTerm)] .none kV_NoTerm dc_NoTerm pm_NoTerm an_NoTerm (.ref cda_NoTerm) ct_NoTerm), sl_NoTerm⟩)
    (h_cd_NoTerm : PySem.W.codeIn K (.ref cda_NoTerm) "NoTerm.__init__" = true)
    (h_lc_NoTerm : K.lookup cda_NoTerm = some ⟨ccl_NoTerm, cdd_NoTerm, .fields vs_NoTerm, ccs_NoTerm⟩)
    (h_v2_NoTerm : vs_NoTerm[2]? = some (.str file_NoTerm tf_NoTerm))
    (h_fi_NoTerm : ((P.main.file : Str) == file_NoTerm) = true)
    (h_ln_NoTerm : (q2_NoTerm.endLine == q4_NoTerm.line) = true)
    (h_ce_NoTerm : K.lookup cc_NoTerm = some ⟨cl_NoTerm, cld_NoTerm, .cell (some (.ref C_NoTerm)), csl_NoTerm⟩)
    (h_se_NoTerm : PySem.W.mroIn K C_NoTerm (.ref C_NoTerm) = some true)
    (h_up_NoTerm : PySem.W.ks_superIn K C_NoTerm C_NoTerm "__init__" = some (some (.builtin "ValueError.__init__")))
    (h_te_NoTerm : PySem.W.exmOne K (.ref C_NoTerm) (.ref C_NoTerm) = some true)
    (h_kb_NoTerm_TiedError : PySem.W.kitOne K (.ref C_NoTerm) (.ref C_TiedError) = some true)
    (h_g_NoDeed : PySem.W.nsIn K mainGlobals "NoDeed" = some (some (.ref C_NoDeed)))
    (h_l_NoDeed : K.lookup C_NoDeed = some (excClassObj nm_NoDeed q_NoDeed C_NoDeed N_NoDeed bs_NoDeed bm_NoDeed true sn_NoDeed su_NoDeed ab_NoDeed co_NoDeed dd_NoDeed k0_NoDeed k1_NoDeed k2_NoDeed k3_NoDeed k5_NoDeed "ValueError.__new__"))
    (h_r_NoDeed : PySem.HandSPX.refsVE bm_NoDeed = true)
    (h_s_NoDeed : PySem.W.findIn K (.ref C_NoDeed) "__setattr__" = some (some (.builtin "object.__setattr__")))
    (h_n_NoDeed : PySem.W.findIn K (.ref C_NoDeed) "value" = some none)
    (h_i_NoDeed : PySem.W.findIn K (.ref C_NoDeed) "__init__" = some (some (.ref i_NoDeed)))
    (h_t_NoDeed : PySem.W.typeIn K (.ref i_NoDeed) = some (.type "function"))
    (h_k_NoDeed : PySem.W.keepIn K (.ref C_NoDeed) = true)
    (h_x_NoDeed : PySem.W.subIn K (.ref C_NoDeed) (.type "BaseException") = some true)
    (h_v_NoDeed : PySem.W.subIn K (.ref C_NoDeed) (.type "ValueError") = some true)
    (h_y_NoDeed : PySem.W.typeIn K (.ref C_NoDeed) = some (.type "type"))
    (h_xf_NoDeed : xfB K C_NoDeed = true)
    (h_fn_NoDeed : K.lookup i_NoDeed = some ⟨oc_NoDeed, od_NoDeed, .func (PySem.W.fnX "__init__" "NoDeed.__init__" (xiA "value" p1_NoDeed p2_NoDeed) (xiB "value" m_NoDeed j_NoDeed q0_NoDeed q1_NoDeed q2_NoDeed q3_NoDeed q4_NoDeed q5_NoDeed r1_NoDeed r2_NoDeed r3_NoDeed r4_NoDeed) (xiS "value") [("__class__", cc_NoDeed)] .none kV_NoDeed dc_NoDeed pm_NoDeed an_NoDeed (.ref cda_NoDeed) ct_NoDeed), sl_NoDeed⟩)
    (h_cd_NoDeed : PySem.W.codeIn K (.ref cda_NoDeed) "NoDeed.__init__" = true)
    (h_lc_NoDeed : K.lookup cda_NoDeed = some ⟨ccl_NoDeed, cdd_NoDeed, .fields vs_NoDeed, ccs_NoDeed⟩)
    (h_v2_NoDeed : vs_NoDeed[2]? = some (.str file_NoDeed tf_NoDeed))
    (h_fi_NoDeed : ((P.main.file : Str) == file_NoDeed) = true)
    (h_ln_NoDeed : (q2_NoDeed.endLine == q4_NoDeed.line) = true)
    (h_ce_NoDeed : K.lookup cc_NoDeed = some ⟨cl_NoDeed, cld_NoDeed, .cell (some (.ref C_NoDeed)), csl_NoDeed⟩)
    (h_se_NoDeed : PySem.W.mroIn K C_NoDeed (.ref C_NoDeed) = some true)
    (h_up_NoDeed : PySem.W.ks_superIn K C_NoDeed C_NoDeed "__init__" = some (some (.builtin "ValueError.__init__")))
    (h_te_NoDeed : PySem.W.exmOne K (.ref C_NoDeed) (.ref C_NoDeed) = some true)
    (h_kb_NoDeed_TiedError : PySem.W.kitOne K (.ref C_NoDeed) (.ref C_TiedError) = some true)
    (h_v_LETTERS : PySem.W.nsIn K mainGlobals "LETTERS" = some (some (.str "abcdefghijklmnopqrstuvwxyz" t_LETTERS)))
    (h_v_DIGITS : PySem.W.nsIn K mainGlobals "DIGITS" = some (some (.str "0123456789" t_DIGITS)))
    (h_v_MOST_LETTERS : PySem.W.nsIn K mainGlobals "MOST_LETTERS" = some (some (.int 8 t_MOST_LETTERS)))
    (h_a_is_whole : PySem.W.nsIn K mainGlobals "is_whole" = some (some (.ref f_is_whole)))
    (h_l_is_whole : K.lookup f_is_whole = some ⟨oc_is_whole, od_is_whole, .func (PySem.W.fnOf "is_whole" "is_whole" (defArgs s_is_whole) (defBody s_is_whole) (defScope s_is_whole) .none kV_is_whole dc_is_whole pm_is_whole an_is_whole cd_is_whole ct_is_whole), sl_is_whole⟩)
    (h_c_is_whole : PySem.W.codeIn K cd_is_whole "is_whole" = true)
    (h_k_is_whole : PySem.W.keepIn K (.ref f_is_whole) = true)
    (h_a_is_number : PySem.W.nsIn K mainGlobals "is_number" = some (some (.ref f_is_number)))
    (h_l_is_number : K.lookup f_is_number = some ⟨oc_is_number, od_is_number, .func (PySem.W.fnOf "is_number" "is_number" (defArgs s_is_number) (defBody s_is_number) (defScope s_is_number) .none kV_is_number dc_is_number pm_is_number an_is_number cd_is_number ct_is_number), sl_is_number⟩)
    (h_c_is_number : PySem.W.codeIn K cd_is_number "is_number" = true)
    (h_k_is_number : PySem.W.keepIn K (.ref f_is_number) = true)
    (h_a_is_word : PySem.W.nsIn K mainGlobals "is_word" = some (some (.ref f_is_word)))
    (h_l_is_word : K.lookup f_is_word = some ⟨oc_is_word, od_is_word, .func (PySem.W.fnOf "is_word" "is_word" (defArgs s_is_word) (defBody s_is_word) (defScope s_is_word) .none kV_is_word dc_is_word pm_is_word an_is_word cd_is_word ct_is_word), sl_is_word⟩)
    (h_c_is_word : PySem.W.codeIn K cd_is_word "is_word" = true)
    (h_k_is_word : PySem.W.keepIn K (.ref f_is_word) = true)
    (h_a_is_digit : PySem.W.nsIn K mainGlobals "is_digit" = some (some (.ref f_is_digit)))
    (h_l_is_digit : K.lookup f_is_digit = some ⟨oc_is_digit, od_is_digit, .func (PySem.W.fnOf "is_digit" "is_digit" (defArgs s_is_digit) (defBody s_is_digit) (defScope s_is_digit) .none kV_is_digit dc_is_digit pm_is_digit an_is_digit cd_is_digit ct_is_digit), sl_is_digit⟩)
    (h_c_is_digit : PySem.W.codeIn K cd_is_digit "is_digit" = true)
    (h_k_is_digit : PySem.W.keepIn K (.ref f_is_digit) = true)
    (h_v_MOST_DEPTH : PySem.W.nsIn K mainGlobals "MOST_DEPTH" = some (some (.int 3 t_MOST_DEPTH)))
    (h_v_MOST_CONSTANT : PySem.W.nsIn K mainGlobals "MOST_CONSTANT" = some (some (.int 9 t_MOST_CONSTANT)))
    (h_v_SIGNS : PySem.W.nsIn K mainGlobals "SIGNS" = some (some (.ref v_SIGNS)))
    (h_w_SIGNS : K.lookup v_SIGNS = some ⟨.type "tuple", dd_SIGNS, .seq #[.str "(" t0_SIGNS, .str "=" t1_SIGNS, .str "?" t2_SIGNS, .str ":" t3_SIGNS, .str ")" t4_SIGNS] n_SIGNS, sl_SIGNS⟩)
    (h_a_word_at : PySem.W.nsIn K mainGlobals "word_at" = some (some (.ref f_word_at)))
    (h_l_word_at : K.lookup f_word_at = some ⟨oc_word_at, od_word_at, .func (PySem.W.fnOf "word_at" "word_at" (defArgs s_word_at) (defBody s_word_at) (defScope s_word_at) .none kV_word_at dc_word_at pm_word_at an_word_at cd_word_at ct_word_at), sl_word_at⟩)
    (h_c_word_at : PySem.W.codeIn K cd_word_at "word_at" = true)
    (h_k_word_at : PySem.W.keepIn K (.ref f_word_at) = true)
    (h_a_plan_at : PySem.W.nsIn K mainGlobals "plan_at" = some (some (.ref f_plan_at)))
    (h_l_plan_at : K.lookup f_plan_at = some ⟨oc_plan_at, od_plan_at, .func (PySem.W.fnOf "plan_at" "plan_at" (defArgs s_plan_at) (defBody s_plan_at) (defScope s_plan_at) .none kV_plan_at dc_plan_at pm_plan_at an_plan_at cd_plan_at ct_plan_at), sl_plan_at⟩)
    (h_c_plan_at : PySem.W.codeIn K cd_plan_at "plan_at" = true)
    (h_k_plan_at : PySem.W.keepIn K (.ref f_plan_at) = true)
    (h_a_text_of : PySem.W.nsIn K mainGlobals "text_of" = some (some (.ref f_text_of)))
    (h_l_text_of : K.lookup f_text_of = some ⟨oc_text_of, od_text_of, .func (PySem.W.fnOf "text_of" "text_of" (defArgs s_text_of) (defBody s_text_of) (defScope s_text_of) .none kV_text_of dc_text_of pm_text_of an_text_of cd_text_of ct_text_of), sl_text_of⟩)
    (h_c_text_of : PySem.W.codeIn K cd_text_of "text_of" = true)
    (h_k_text_of : PySem.W.keepIn K (.ref f_text_of) = true)
    (h_a_stands_in : PySem.W.nsIn K mainGlobals "stands_in" = some (some (.ref f_stands_in)))
    (h_l_stands_in : K.lookup f_stands_in = some ⟨oc_stands_in, od_stands_in, .func (PySem.W.fnOf "stands_in" "stands_in" (defArgs s_stands_in) (defBody s_stands_in) (defScope s_stands_in) .none kV_stands_in dc_stands_in pm_stands_in an_stands_in cd_stands_in ct_stands_in), sl_stands_in⟩)
    (h_c_stands_in : PySem.W.codeIn K cd_stands_in "stands_in" = true)
    (h_k_stands_in : PySem.W.keepIn K (.ref f_stands_in) = true)
    (h_a_plan_of : PySem.W.nsIn K mainGlobals "plan_of" = some (some (.ref f_plan_of)))
    (h_l_plan_of : K.lookup f_plan_of = some ⟨oc_plan_of, od_plan_of, .func (PySem.W.fnOf "plan_of" "plan_of" (defArgs s_plan_of) (defBody s_plan_of) (defScope s_plan_of) .none kV_plan_of dc_plan_of pm_plan_of an_plan_of cd_plan_of ct_plan_of), sl_plan_of⟩)
    (h_c_plan_of : PySem.W.codeIn K cd_plan_of "plan_of" = true)
    (h_k_plan_of : PySem.W.keepIn K (.ref f_plan_of) = true)
    (h_g_Term : PySem.W.nsIn K mainGlobals "Term" = some (some (.ref C_Term)))
    (h_pg_Term : PySem.W.plainGet K C_Term Str.empty = true)
    (h_hd_Term : PySem.W.hasDictIn K C_Term = true)
    (h_po_Term : PySem.W.plainOver K C_Term = true)
    (h_sa_Term : PySem.W.findIn K (.ref C_Term) "__setattr__" = some (some (.builtin "object.__setattr__")))
    (h_kp_Term : PySem.W.keepIn K (.ref C_Term) = true)
    (h_ty_Term : PySem.W.findIn K (.ref C_Term) "__class__" = some (some (.builtin "object.__class__")))
    (h_mo_Term : PySem.W.mroIn K C_Term (.type "object") = some true)
    (h_kit_Term_NoneType : PySem.W.kitOne K (.type "NoneType") (.ref C_Term) = some false)
    (h_kit_Term_bool : PySem.W.kitOne K (.type "bool") (.ref C_Term) = some false)
    (h_kit_Term_int : PySem.W.kitOne K (.type "int") (.ref C_Term) = some false)
    (h_kit_Term_str : PySem.W.kitOne K (.type "str") (.ref C_Term) = some false)
    (h_kit_Term_list : PySem.W.kitOne K (.type "list") (.ref C_Term) = some false)
    (h_kit_Term_tuple : PySem.W.kitOne K (.type "tuple") (.ref C_Term) = some false)
    (h_kit_Term_dict : PySem.W.kitOne K (.type "dict") (.ref C_Term) = some false)
    (h_kit_Term : PySem.W.kitOne K (.ref C_Term) (.ref C_Term) = some true)
    (h_l_Term___init__ : K.lookup f_Term___init__ = some ⟨oc_Term___init__, od_Term___init__, .func (PySem.W.fnOf "__init__" "Term.__init__" (defArgs s_Term___init__) (defBody s_Term___init__) (defScope s_Term___init__) .none kV_Term___init__ dc_Term___init__ pm_Term___init__ an_Term___init__ cd_Term___init__ ct_Term___init__), sl_Term___init__⟩)
    (h_c_Term___init__ : PySem.W.codeIn K cd_Term___init__ "Term.__init__" = true)
    (h_k_Term___init__ : PySem.W.keepIn K (.ref f_Term___init__) = true)
    (h_a_Term___init__ : PySem.W.findIn K (.ref C_Term) "__init__" = some (some (.ref f_Term___init__)))
    (h_i_Term___init__ : PySem.W.isFn K (.ref f_Term___init__) = true)
    (h_mk_Term : PySem.W.makesIn K C_Term = true)
    (h_l_Term_choice : K.lookup f_Term_choice = some ⟨oc_Term_choice, od_Term_choice, .func (PySem.W.fnOf "choice" "Term.choice" (defArgs s_Term_choice) (defBody s_Term_choice) (defScope s_Term_choice) .none kV_Term_choice dc_Term_choice pm_Term_choice an_Term_choice cd_Term_choice ct_Term_choice), sl_Term_choice⟩)
    (h_c_Term_choice : PySem.W.codeIn K cd_Term_choice "Term.choice" = true)
    (h_k_Term_choice : PySem.W.keepIn K (.ref f_Term_choice) = true)
    (h_r1_Term_choice : PySem.W.readsIn K C_Term (.type "type") = true)
    (h_r2_Term_choice : PySem.W.specialIn K (.ref C_Term) "__getattribute__" = some (some (.builtin "type.__getattribute__")))
    (h_r3_Term_choice : PySem.W.findCls K (.ref C_Term) (.type "type") "choice" = some (.get (.builtin "staticmethod.__get__") (.ref p_Term_choice) .none (.ref C_Term)))
    (h_r4_Term_choice : PySem.W.recIn K p_Term_choice "staticmethod" = some (.ref f_Term_choice :: re_Term_choice))
    (h_l_Term___str__ : K.lookup f_Term___str__ = some ⟨oc_Term___str__, od_Term___str__, .func (PySem.W.fnOf "__str__" "Term.__str__" (defArgs s_Term___str__) (defBody s_Term___str__) (defScope s_Term___str__) .none kV_Term___str__ dc_Term___str__ pm_Term___str__ an_Term___str__ cd_Term___str__ ct_Term___str__), sl_Term___str__⟩)
    (h_c_Term___str__ : PySem.W.codeIn K cd_Term___str__ "Term.__str__" = true)
    (h_k_Term___str__ : PySem.W.keepIn K (.ref f_Term___str__) = true)
    (h_a_Term___str__ : PySem.W.findIn K (.ref C_Term) "__str__" = some (some (.ref f_Term___str__)))
    (h_i_Term___str__ : PySem.W.isFn K (.ref f_Term___str__) = true)
    (h_fm_Term : PySem.W.findIn K (.ref C_Term) "__format__" = some (some (.builtin "object.__format__")))
    (h_l_Term_parts : K.lookup f_Term_parts = some ⟨oc_Term_parts, od_Term_parts, .func (PySem.W.fnOf "parts" "Term.parts" (defArgs s_Term_parts) (defBody s_Term_parts) (defScope s_Term_parts) .none kV_Term_parts dc_Term_parts pm_Term_parts an_Term_parts cd_Term_parts ct_Term_parts), sl_Term_parts⟩)
    (h_c_Term_parts : PySem.W.codeIn K cd_Term_parts "Term.parts" = true)
    (h_k_Term_parts : PySem.W.keepIn K (.ref f_Term_parts) = true)
    (h_a_Term_parts : PySem.W.findIn K (.ref C_Term) "parts" = some (some (.ref f_Term_parts)))
    (h_i_Term_parts : PySem.W.isFn K (.ref f_Term_parts) = true)
    (h_l_Term___eq__ : K.lookup f_Term___eq__ = some ⟨oc_Term___eq__, od_Term___eq__, .func (PySem.W.fnOf "__eq__" "Term.__eq__" (defArgs s_Term___eq__) (defBody s_Term___eq__) (defScope s_Term___eq__) .none kV_Term___eq__ dc_Term___eq__ pm_Term___eq__ an_Term___eq__ cd_Term___eq__ ct_Term___eq__), sl_Term___eq__⟩)
    (h_c_Term___eq__ : PySem.W.codeIn K cd_Term___eq__ "Term.__eq__" = true)
    (h_k_Term___eq__ : PySem.W.keepIn K (.ref f_Term___eq__) = true)
    (h_a_Term___eq__ : PySem.W.findIn K (.ref C_Term) "__eq__" = some (some (.ref f_Term___eq__)))
    (h_i_Term___eq__ : PySem.W.isFn K (.ref f_Term___eq__) = true)
    (h_ne_Term : PySem.W.findIn K (.ref C_Term) "__ne__" = some (some (.builtin "object.__ne__")))
    (h_nf_Term : PySem.W.notFirst K C_Term (.type "str") = true)
    (h_l_Term_within : K.lookup f_Term_within = some ⟨oc_Term_within, od_Term_within, .func (PySem.W.fnOf "within" "Term.within" (defArgs s_Term_within) (defBody s_Term_within) (defScope s_Term_within) .none kV_Term_within dc_Term_within pm_Term_within an_Term_within cd_Term_within ct_Term_within), sl_Term_within⟩)
    (h_c_Term_within : PySem.W.codeIn K cd_Term_within "Term.within" = true)
    (h_k_Term_within : PySem.W.keepIn K (.ref f_Term_within) = true)
    (h_a_Term_within : PySem.W.findIn K (.ref C_Term) "within" = some (some (.ref f_Term_within)))
    (h_i_Term_within : PySem.W.isFn K (.ref f_Term_within) = true)
    (h_no_Term_tree : PySem.W.findIn K (.ref C_Term) "tree" = some none)
    (h_v_AT_ONCE : PySem.W.nsIn K mainGlobals "AT_ONCE" = some (some (.str " := " t_AT_ONCE)))
    (h_v_AT_THE_END : PySem.W.nsIn K mainGlobals "AT_THE_END" = some (some (.str " <= " t_AT_THE_END)))
    (h_a_deed_parts : PySem.W.nsIn K mainGlobals "deed_parts" = some (some (.ref f_deed_parts)))
    (h_l_deed_parts : K.lookup f_deed_parts = some ⟨oc_deed_parts, od_deed_parts, .func (PySem.W.fnOf "deed_parts" "deed_parts" (defArgs s_deed_parts) (defBody s_deed_parts) (defScope s_deed_parts) .none kV_deed_parts dc_deed_parts pm_deed_parts an_deed_parts cd_deed_parts ct_deed_parts), sl_deed_parts⟩)
    (h_c_deed_parts : PySem.W.codeIn K cd_deed_parts "deed_parts" = true)
    (h_k_deed_parts : PySem.W.keepIn K (.ref f_deed_parts) = true)
    (h_g_Deed : PySem.W.nsIn K mainGlobals "Deed" = some (some (.ref C_Deed)))
    (h_pg_Deed : PySem.W.plainGet K C_Deed Str.empty = true)
    (h_hd_Deed : PySem.W.hasDictIn K C_Deed = true)
    (h_po_Deed : PySem.W.plainOver K C_Deed = true)
    (h_sa_Deed : PySem.W.findIn K (.ref C_Deed) "__setattr__" = some (some (.builtin "object.__setattr__")))
    (h_kp_Deed : PySem.W.keepIn K (.ref C_Deed) = true)
    (h_ty_Deed : PySem.W.findIn K (.ref C_Deed) "__class__" = some (some (.builtin "object.__class__")))
    (h_mo_Deed : PySem.W.mroIn K C_Deed (.type "object") = some true)
    (h_kit_Deed_NoneType : PySem.W.kitOne K (.type "NoneType") (.ref C_Deed) = some false)
    (h_kit_Deed_bool : PySem.W.kitOne K (.type "bool") (.ref C_Deed) = some false)
    (h_kit_Deed_int : PySem.W.kitOne K (.type "int") (.ref C_Deed) = some false)
    (h_kit_Deed_str : PySem.W.kitOne K (.type "str") (.ref C_Deed) = some false)
    (h_kit_Deed_list : PySem.W.kitOne K (.type "list") (.ref C_Deed) = some false)
    (h_kit_Deed_tuple : PySem.W.kitOne K (.type "tuple") (.ref C_Deed) = some false)
    (h_kit_Deed_dict : PySem.W.kitOne K (.type "dict") (.ref C_Deed) = some false)
    (h_kit_Deed : PySem.W.kitOne K (.ref C_Deed) (.ref C_Deed) = some true)
    (h_l_Deed___init__ : K.lookup f_Deed___init__ = some ⟨oc_Deed___init__, od_Deed___init__, .func (PySem.W.fnOf "__init__" "Deed.__init__" (defArgs s_Deed___init__) (defBody s_Deed___init__) (defScope s_Deed___init__) .none (.ref kD_Deed___init__) dc_Deed___init__ pm_Deed___init__ an_Deed___init__ cd_Deed___init__ ct_Deed___init__), sl_Deed___init__⟩)
    (h_c_Deed___init__ : PySem.W.codeIn K cd_Deed___init__ "Deed.__init__" = true)
    (h_k_Deed___init__ : PySem.W.keepIn K (.ref f_Deed___init__) = true)
    (h_kw_Deed___init___late : PySem.W.nsIn K kD_Deed___init__ "late" = some (some (.bool false)))
    (h_a_Deed___init__ : PySem.W.findIn K (.ref C_Deed) "__init__" = some (some (.ref f_Deed___init__)))
    (h_i_Deed___init__ : PySem.W.isFn K (.ref f_Deed___init__) = true)
    (h_mk_Deed : PySem.W.makesIn K C_Deed = true)
    (h_l_Deed_of : K.lookup f_Deed_of = some ⟨oc_Deed_of, od_Deed_of, .func (PySem.W.fnOf "of" "Deed.of" (defArgs s_Deed_of) (defBody s_Deed_of) (defScope s_Deed_of) .none kV_Deed_of dc_Deed_of pm_Deed_of an_Deed_of cd_Deed_of ct_Deed_of), sl_Deed_of⟩)
    (h_c_Deed_of : PySem.W.codeIn K cd_Deed_of "Deed.of" = true)
    (h_k_Deed_of : PySem.W.keepIn K (.ref f_Deed_of) = true)
    (h_r1_Deed_of : PySem.W.readsIn K C_Deed (.type "type") = true)
    (h_r2_Deed_of : PySem.W.specialIn K (.ref C_Deed) "__getattribute__" = some (some (.builtin "type.__getattribute__")))
    (h_r3_Deed_of : PySem.W.findCls K (.ref C_Deed) (.type "type") "of" = some (.get (.builtin "staticmethod.__get__") (.ref p_Deed_of) .none (.ref C_Deed)))
    (h_r4_Deed_of : PySem.W.recIn K p_Deed_of "staticmethod" = some (.ref f_Deed_of :: re_Deed_of))
    (h_l_Deed_variable : K.lookup f_Deed_variable = some ⟨oc_Deed_variable, od_Deed_variable, .func (PySem.W.fnOf "variable" "Deed.variable" (defArgs s_Deed_variable) (defBody s_Deed_variable) (defScope s_Deed_variable) .none kV_Deed_variable dc_Deed_variable pm_Deed_variable an_Deed_variable cd_Deed_variable ct_Deed_variable), sl_Deed_variable⟩)
    (h_c_Deed_variable : PySem.W.codeIn K cd_Deed_variable "Deed.variable" = true)
    (h_k_Deed_variable : PySem.W.keepIn K (.ref f_Deed_variable) = true)
    (h_q1_Deed_variable : PySem.W.findIn K (.ref C_Deed) "variable" = some (some (.ref p_Deed_variable)))
    (h_q2_Deed_variable : PySem.W.specialIn K (.ref p_Deed_variable) "__get__" = some (some (.builtin "property.__get__")))
    (h_q3_Deed_variable : PySem.W.takesIn K (.ref p_Deed_variable) = some true)
    (h_q4_Deed_variable : PySem.W.recIn K p_Deed_variable "property" = some (.ref f_Deed_variable :: re_Deed_variable))
    (h_l_Deed_term : K.lookup f_Deed_term = some ⟨oc_Deed_term, od_Deed_term, .func (PySem.W.fnOf "term" "Deed.term" (defArgs s_Deed_term) (defBody s_Deed_term) (defScope s_Deed_term) .none kV_Deed_term dc_Deed_term pm_Deed_term an_Deed_term cd_Deed_term ct_Deed_term), sl_Deed_term⟩)
    (h_c_Deed_term : PySem.W.codeIn K cd_Deed_term "Deed.term" = true)
    (h_k_Deed_term : PySem.W.keepIn K (.ref f_Deed_term) = true)
    (h_q1_Deed_term : PySem.W.findIn K (.ref C_Deed) "term" = some (some (.ref p_Deed_term)))
    (h_q2_Deed_term : PySem.W.specialIn K (.ref p_Deed_term) "__get__" = some (some (.builtin "property.__get__")))
    (h_q3_Deed_term : PySem.W.takesIn K (.ref p_Deed_term) = some true)
    (h_q4_Deed_term : PySem.W.recIn K p_Deed_term "property" = some (.ref f_Deed_term :: re_Deed_term))
    (h_l_Deed_late : K.lookup f_Deed_late = some ⟨oc_Deed_late, od_Deed_late, .func (PySem.W.fnOf "late" "Deed.late" (defArgs s_Deed_late) (defBody s_Deed_late) (defScope s_Deed_late) .none kV_Deed_late dc_Deed_late pm_Deed_late an_Deed_late cd_Deed_late ct_Deed_late), sl_Deed_late⟩)
    (h_c_Deed_late : PySem.W.codeIn K cd_Deed_late "Deed.late" = true)
    (h_k_Deed_late : PySem.W.keepIn K (.ref f_Deed_late) = true)
    (h_q1_Deed_late : PySem.W.findIn K (.ref C_Deed) "late" = some (some (.ref p_Deed_late)))
    (h_q2_Deed_late : PySem.W.specialIn K (.ref p_Deed_late) "__get__" = some (some (.builtin "property.__get__")))
    (h_q3_Deed_late : PySem.W.takesIn K (.ref p_Deed_late) = some true)
    (h_q4_Deed_late : PySem.W.recIn K p_Deed_late "property" = some (.ref f_Deed_late :: re_Deed_late))
    (h_l_Deed_delayed : K.lookup f_Deed_delayed = some ⟨oc_Deed_delayed, od_Deed_delayed, .func (PySem.W.fnOf "delayed" "Deed.delayed" (defArgs s_Deed_delayed) (defBody s_Deed_delayed) (defScope s_Deed_delayed) .none kV_Deed_delayed dc_Deed_delayed pm_Deed_delayed an_Deed_delayed cd_Deed_delayed ct_Deed_delayed), sl_Deed_delayed⟩)
    (h_c_Deed_delayed : PySem.W.codeIn K cd_Deed_delayed "Deed.delayed" = true)
    (h_k_Deed_delayed : PySem.W.keepIn K (.ref f_Deed_delayed) = true)
    (h_a_Deed_delayed : PySem.W.findIn K (.ref C_Deed) "delayed" = some (some (.ref f_Deed_delayed)))
    (h_i_Deed_delayed : PySem.W.isFn K (.ref f_Deed_delayed) = true)
    (h_l_Deed___str__ : K.lookup f_Deed___str__ = some ⟨oc_Deed___str__, od_Deed___str__, .func (PySem.W.fnOf "__str__" "Deed.__str__" (defArgs s_Deed___str__) (defBody s_Deed___str__) (defScope s_Deed___str__) .none kV_Deed___str__ dc_Deed___str__ pm_Deed___str__ an_Deed___str__ cd_Deed___str__ ct_Deed___str__), sl_Deed___str__⟩)
    (h_c_Deed___str__ : PySem.W.codeIn K cd_Deed___str__ "Deed.__str__" = true)
    (h_k_Deed___str__ : PySem.W.keepIn K (.ref f_Deed___str__) = true)
    (h_a_Deed___str__ : PySem.W.findIn K (.ref C_Deed) "__str__" = some (some (.ref f_Deed___str__)))
    (h_i_Deed___str__ : PySem.W.isFn K (.ref f_Deed___str__) = true)
    (h_fm_Deed : PySem.W.findIn K (.ref C_Deed) "__format__" = some (some (.builtin "object.__format__")))
    (h_l_Deed___eq__ : K.lookup f_Deed___eq__ = some ⟨oc_Deed___eq__, od_Deed___eq__, .func (PySem.W.fnOf "__eq__" "Deed.__eq__" (defArgs s_Deed___eq__) (defBody s_Deed___eq__) (defScope s_Deed___eq__) .none kV_Deed___eq__ dc_Deed___eq__ pm_Deed___eq__ an_Deed___eq__ cd_Deed___eq__ ct_Deed___eq__), sl_Deed___eq__⟩)
    (h_c_Deed___eq__ : PySem.W.codeIn K cd_Deed___eq__ "Deed.__eq__" = true)
    (h_k_Deed___eq__ : PySem.W.keepIn K (.ref f_Deed___eq__) = true)
    (h_a_Deed___eq__ : PySem.W.findIn K (.ref C_Deed) "__eq__" = some (some (.ref f_Deed___eq__)))
    (h_i_Deed___eq__ : PySem.W.isFn K (.ref f_Deed___eq__) = true)
    (h_ne_Deed : PySem.W.findIn K (.ref C_Deed) "__ne__" = some (some (.builtin "object.__ne__")))
    (h_nf_Deed : PySem.W.notFirst K C_Deed (.type "str") = true)
    (h_no_Deed_is_late : PySem.W.findIn K (.ref C_Deed) "is_late" = some none)
    (h_no_Deed_source : PySem.W.findIn K (.ref C_Deed) "source" = some none)
    (h_no_Deed_target : PySem.W.findIn K (.ref C_Deed) "target" = some none)
    (h_a__law_pool : PySem.W.nsIn K mainGlobals "_law_pool" = some (some (.ref f__law_pool)))
    (h_l__law_pool : K.lookup f__law_pool = some ⟨oc__law_pool, od__law_pool, .func (PySem.W.fnOf "_law_pool" "_law_pool" (defArgs s__law_pool) (defBody s__law_pool) (defScope s__law_pool) .none kV__law_pool dc__law_pool pm__law_pool an__law_pool cd__law_pool ct__law_pool), sl__law_pool⟩)
    (h_c__law_pool : PySem.W.codeIn K cd__law_pool "_law_pool" = true)
    (h_k__law_pool : PySem.W.keepIn K (.ref f__law_pool) = true)
    (h_a__law_take : PySem.W.nsIn K mainGlobals "_law_take" = some (some (.ref f__law_take)))
    (h_l__law_take : K.lookup f__law_take = some ⟨oc__law_take, od__law_take, .func (PySem.W.fnOf "_law_take" "_law_take" (defArgs s__law_take) (defBody s__law_take) (defScope s__law_take) .none kV__law_take dc__law_take pm__law_take an__law_take cd__law_take ct__law_take), sl__law_take⟩)
    (h_c__law_take : PySem.W.codeIn K cd__law_take "_law_take" = true)
    (h_k__law_take : PySem.W.keepIn K (.ref f__law_take) = true)
    (h_a__law_one : PySem.W.nsIn K mainGlobals "_law_one" = some (some (.ref f__law_one)))
    (h_l__law_one : K.lookup f__law_one = some ⟨oc__law_one, od__law_one, .func (PySem.W.fnOf "_law_one" "_law_one" (defArgs s__law_one) (defBody s__law_one) (defScope s__law_one) .none kV__law_one dc__law_one pm__law_one an__law_one cd__law_one ct__law_one), sl__law_one⟩)
    (h_c__law_one : PySem.W.codeIn K cd__law_one "_law_one" = true)
    (h_k__law_one : PySem.W.keepIn K (.ref f__law_one) = true)
    (h_a__law_words : PySem.W.nsIn K mainGlobals "_law_words" = some (some (.ref f__law_words)))
    (h_l__law_words : K.lookup f__law_words = some ⟨oc__law_words, od__law_words, .func (PySem.W.fnOf "_law_words" "_law_words" (defArgs s__law_words) (defBody s__law_words) (defScope s__law_words) .none kV__law_words dc__law_words pm__law_words an__law_words cd__law_words ct__law_words), sl__law_words⟩)
    (h_c__law_words : PySem.W.codeIn K cd__law_words "_law_words" = true)
    (h_k__law_words : PySem.W.keepIn K (.ref f__law_words) = true)
    (h_a__law_tree : PySem.W.nsIn K mainGlobals "_law_tree" = some (some (.ref f__law_tree)))
    (h_l__law_tree : K.lookup f__law_tree = some ⟨oc__law_tree, od__law_tree, .func (PySem.W.fnOf "_law_tree" "_law_tree" (defArgs s__law_tree) (defBody s__law_tree) (defScope s__law_tree) .none kV__law_tree dc__law_tree pm__law_tree an__law_tree cd__law_tree ct__law_tree), sl__law_tree⟩)
    (h_c__law_tree : PySem.W.codeIn K cd__law_tree "_law_tree" = true)
    (h_k__law_tree : PySem.W.keepIn K (.ref f__law_tree) = true)
    (h_a__law_tree_text : PySem.W.nsIn K mainGlobals "_law_tree_text" = some (some (.ref f__law_tree_text)))
    (h_l__law_tree_text : K.lookup f__law_tree_text = some ⟨oc__law_tree_text, od__law_tree_text, .func (PySem.W.fnOf "_law_tree_text" "_law_tree_text" (defArgs s__law_tree_text) (defBody s__law_tree_text) (defScope s__law_tree_text) .none kV__law_tree_text dc__law_tree_text pm__law_tree_text an__law_tree_text cd__law_tree_text ct__law_tree_text), sl__law_tree_text⟩)
    (h_c__law_tree_text : PySem.W.codeIn K cd__law_tree_text "_law_tree_text" = true)
    (h_k__law_tree_text : PySem.W.keepIn K (.ref f__law_tree_text) = true)
    (h_a__law_deed_text : PySem.W.nsIn K mainGlobals "_law_deed_text" = some (some (.ref f__law_deed_text)))
    (h_l__law_deed_text : K.lookup f__law_deed_text = some ⟨oc__law_deed_text, od__law_deed_text, .func (PySem.W.fnOf "_law_deed_text" "_law_deed_text" (defArgs s__law_deed_text) (defBody s__law_deed_text) (defScope s__law_deed_text) .none kV__law_deed_text dc__law_deed_text pm__law_deed_text an__law_deed_text cd__law_deed_text ct__law_deed_text), sl__law_deed_text⟩)
    (h_c__law_deed_text : PySem.W.codeIn K cd__law_deed_text "_law_deed_text" = true)
    (h_k__law_deed_text : PySem.W.keepIn K (.ref f__law_deed_text) = true)
    (h_a__law_deeds_drawn : PySem.W.nsIn K mainGlobals "_law_deeds_drawn" = some (some (.ref f__law_deeds_drawn)))
    (h_l__law_deeds_drawn : K.lookup f__law_deeds_drawn = some ⟨oc__law_deeds_drawn, od__law_deeds_drawn, .func (PySem.W.fnOf "_law_deeds_drawn" "_law_deeds_drawn" (defArgs s__law_deeds_drawn) (defBody s__law_deeds_drawn) (defScope s__law_deeds_drawn) .none kV__law_deeds_drawn dc__law_deeds_drawn pm__law_deeds_drawn an__law_deeds_drawn cd__law_deeds_drawn ct__law_deeds_drawn), sl__law_deeds_drawn⟩)
    (h_c__law_deeds_drawn : PySem.W.codeIn K cd__law_deeds_drawn "_law_deeds_drawn" = true)
    (h_k__law_deeds_drawn : PySem.W.keepIn K (.ref f__law_deeds_drawn) = true)
    (h_a__law_told : PySem.W.nsIn K mainGlobals "_law_told" = some (some (.ref f__law_told)))
    (h_l__law_told : K.lookup f__law_told = some ⟨oc__law_told, od__law_told, .func (PySem.W.fnOf "_law_told" "_law_told" (defArgs s__law_told) (defBody s__law_told) (defScope s__law_told) .none kV__law_told dc__law_told pm__law_told an__law_told cd__law_told ct__law_told), sl__law_told⟩)
    (h_c__law_told : PySem.W.codeIn K cd__law_told "_law_told" = true)
    (h_k__law_told : PySem.W.keepIn K (.ref f__law_told) = true)
    (h_a__law_tried : PySem.W.nsIn K mainGlobals "_law_tried" = some (some (.ref f__law_tried)))
    (h_l__law_tried : K.lookup f__law_tried = some ⟨oc__law_tried, od__law_tried, .func (PySem.W.fnOf "_law_tried" "_law_tried" (defArgs s__law_tried) (defBody s__law_tried) (defScope s__law_tried) .none kV__law_tried dc__law_tried pm__law_tried an__law_tried cd__law_tried ct__law_tried), sl__law_tried⟩)
    (h_c__law_tried : PySem.W.codeIn K cd__law_tried "_law_tried" = true)
    (h_k__law_tried : PySem.W.keepIn K (.ref f__law_tried) = true)
    (h_a__law_is_term : PySem.W.nsIn K mainGlobals "_law_is_term" = some (some (.ref f__law_is_term)))
    (h_l__law_is_term : K.lookup f__law_is_term = some ⟨oc__law_is_term, od__law_is_term, .func (PySem.W.fnOf "_law_is_term" "_law_is_term" (defArgs s__law_is_term) (defBody s__law_is_term) (defScope s__law_is_term) .none kV__law_is_term dc__law_is_term pm__law_is_term an__law_is_term cd__law_is_term ct__law_is_term), sl__law_is_term⟩)
    (h_c__law_is_term : PySem.W.codeIn K cd__law_is_term "_law_is_term" = true)
    (h_k__law_is_term : PySem.W.keepIn K (.ref f__law_is_term) = true)
    (h_a__law_is_word : PySem.W.nsIn K mainGlobals "_law_is_word" = some (some (.ref f__law_is_word)))
    (h_l__law_is_word : K.lookup f__law_is_word = some ⟨oc__law_is_word, od__law_is_word, .func (PySem.W.fnOf "_law_is_word" "_law_is_word" (defArgs s__law_is_word) (defBody s__law_is_word) (defScope s__law_is_word) .none kV__law_is_word dc__law_is_word pm__law_is_word an__law_is_word cd__law_is_word ct__law_is_word), sl__law_is_word⟩)
    (h_c__law_is_word : PySem.W.codeIn K cd__law_is_word "_law_is_word" = true)
    (h_k__law_is_word : PySem.W.keepIn K (.ref f__law_is_word) = true)
    (h_a__law_due : PySem.W.nsIn K mainGlobals "_law_due" = some (some (.ref f__law_due)))
    (h_l__law_due : K.lookup f__law_due = some ⟨oc__law_due, od__law_due, .func (PySem.W.fnOf "_law_due" "_law_due" (defArgs s__law_due) (defBody s__law_due) (defScope s__law_due) .none kV__law_due dc__law_due pm__law_due an__law_due cd__law_due ct__law_due), sl__law_due⟩)
    (h_c__law_due : PySem.W.codeIn K cd__law_due "_law_due" = true)
    (h_k__law_due : PySem.W.keepIn K (.ref f__law_due) = true)
    (h_a__law_bent : PySem.W.nsIn K mainGlobals "_law_bent" = some (some (.ref f__law_bent)))
    (h_l__law_bent : K.lookup f__law_bent = some ⟨oc__law_bent, od__law_bent, .func (PySem.W.fnOf "_law_bent" "_law_bent" (defArgs s__law_bent) (defBody s__law_bent) (defScope s__law_bent) .none kV__law_bent dc__law_bent pm__law_bent an__law_bent cd__law_bent ct__law_bent), sl__law_bent⟩)
    (h_c__law_bent : PySem.W.codeIn K cd__law_bent "_law_bent" = true)
    (h_k__law_bent : PySem.W.keepIn K (.ref f__law_bent) = true)
    (h_l_law : K.lookup f_law = some ⟨oc_law, od_law, .func (PySem.W.fnOf "law" "law" (defArgs s_law) (defBody s_law) (defScope s_law) .none kV_law dc_law pm_law an_law (.ref cc_law) ct_law), sl_law⟩)
    (h_c_law : PySem.W.codeIn K (.ref cc_law) "law" = true)
    (h_k_law : PySem.W.keepIn K (.ref f_law) = true)
    (h_lc_law : K.lookup cc_law = some ⟨.type "code", dd_law, .fields vs_law, s2_law⟩)
    (h_a_law : PySem.W.nsIn K mainGlobals "law" = some (some (.ref f_law)))
    (h_v11_law : vs_law[11]? = some (.ref P_law))
    (h_vx_law : ∃ (file : Str) (tf : Tok) (flags : Int) (tg : Tok) (inF : Bool) (text : Int) (tt : Tok), vs_law.getD 11 .none = .ref P_law ∧ vs_law.getD 18 .none = .str file tf ∧ vs_law.getD 7 .none = .int flags tg ∧ vs_law.getD 9 .none = .bool inF ∧ vs_law.getD 10 .none = .int text tt ∧ cc_law ≠ P_law)
    (h_np_law : K.lookup P_law = none)
    (h_b_len : PySem.W.nsIn K mainGlobals "len" = some none)
    (h_b_max : PySem.W.nsIn K mainGlobals "max" = some none)
    (h_b_min : PySem.W.nsIn K mainGlobals "min" = some none)
    (h_b_int : PySem.W.nsIn K mainGlobals "int" = some none)
    (h_b_str : PySem.W.nsIn K mainGlobals "str" = some none)
    (h_b_tuple : PySem.W.nsIn K mainGlobals "tuple" = some none)
    (h_b_list : PySem.W.nsIn K mainGlobals "list" = some none)
    (h_b_bool : PySem.W.nsIn K mainGlobals "bool" = some none)
    (h_b_dict : PySem.W.nsIn K mainGlobals "dict" = some none)
    (h_b_set : PySem.W.nsIn K mainGlobals "set" = some none)
    (h_b_isinstance : PySem.W.nsIn K mainGlobals "isinstance" = some none)
    (h_b_sorted : PySem.W.nsIn K mainGlobals "sorted" = some none)
    (h_b_repr : PySem.W.nsIn K mainGlobals "repr" = some none)
    (h_b_range : PySem.W.nsIn K mainGlobals "range" = some none)
    (h_b_enumerate : PySem.W.nsIn K mainGlobals "enumerate" = some none)
    (h_b_zip : PySem.W.nsIn K mainGlobals "zip" = some none)
    (h_b_sum : PySem.W.nsIn K mainGlobals "sum" = some none)
    (h_b_all : PySem.W.nsIn K mainGlobals "all" = some none)
    (h_b_any : PySem.W.nsIn K mainGlobals "any" = some none)
    (h_sup : PySem.W.nsIn K mainGlobals "super" = some none)
    (h_topS : (P.main.scope.names.lookup ("super" : Str)).isSome = false)
    (h_opq : PySem.W.nsIn K PySem.cStatics "thirdparty.any" = some none)
    (h_tn : PySem.W.specialIn K (.builtin "object.__class__") "__get__" = some (some (.builtin "getset_descriptor.__get__")))
    (h_tt : PySem.W.takesIn K (.builtin "object.__class__") = some true) :
    ∃ a : Ad, Tx P K mg a := by
  refine ⟨⟨C_TiedError, C_NoTerm, i_NoTerm, C_NoDeed, i_NoDeed, f_is_whole, (PySem.W.fnOf "is_whole" "is_whole" (defArgs s_is_whole) (defBody s_is_whole) (defScope s_is_whole) .none kV_is_whole dc_is_whole pm_is_whole an_is_whole cd_is_whole ct_is_whole), f_is_number, (PySem.W.fnOf "is_number" "is_number" (defArgs s_is_number) (defBody s_is_number) (defScope s_is_number) .none kV_is_number dc_is_number pm_is_number an_is_number cd_is_number ct_is_number), f_is_word, (PySem.W.fnOf "is_word" "is_word" (defArgs s_is_word) (defBody s_is_word) (defScope s_is_word) .none kV_is_word dc_is_word pm_is_word an_is_word cd_is_word ct_is_word), f_is_digit, (PySem.W.fnOf "is_digit" "is_digit" (defArgs s_is_digit) (defBody s_is_digit) (defScope s_is_digit) .none kV_is_digit dc_is_digit pm_is_digit an_is_digit cd_is_digit ct_is_digit), v_SIGNS, f_word_at, (PySem.W.fnOf "word_at" "word_at" (defArgs s_word_at) (defBody s_word_at) (defScope s_word_at) .none kV_word_at dc_word_at pm_word_at an_word_at cd_word_at ct_word_at), f_plan_at, (PySem.W.fnOf "plan_at" "plan_at" (defArgs s_plan_at) (defBody s_plan_at) (defScope s_plan_at) .none kV_plan_at dc_plan_at pm_plan_at an_plan_at cd_plan_at ct_plan_at), f_text_of, (PySem.W.fnOf "text_of" "text_of" (defArgs s_text_of) (defBody s_text_of) (defScope s_text_of) .none kV_text_of dc_text_of pm_text_of an_text_of cd_text_of ct_text_of), f_stands_in, (PySem.W.fnOf "stands_in" "stands_in" (defArgs s_stands_in) (defBody s_stands_in) (defScope s_stands_in) .none kV_stands_in dc_stands_in pm_stands_in an_stands_in cd_stands_in ct_stands_in), f_plan_of, (PySem.W.fnOf "plan_of" "plan_of" (defArgs s_plan_of) (defBody s_plan_of) (defScope s_plan_of) .none kV_plan_of dc_plan_of pm_plan_of an_plan_of cd_plan_of ct_plan_of), C_Term, f_Term___init__, (PySem.W.fnOf "__init__" "Term.__init__" (defArgs s_Term___init__) (defBody s_Term___init__) (defScope s_Term___init__) .none kV_Term___init__ dc_Term___init__ pm_Term___init__ an_Term___init__ cd_Term___init__ ct_Term___init__), f_Term_choice, (PySem.W.fnOf "choice" "Term.choice" (defArgs s_Term_choice) (defBody s_Term_choice) (defScope s_Term_choice) .none kV_Term_choice dc_Term_choice pm_Term_choice an_Term_choice cd_Term_choice ct_Term_choice), p_Term_choice, f_Term___str__, (PySem.W.fnOf "__str__" "Term.__str__" (defArgs s_Term___str__) (defBody s_Term___str__) (defScope s_Term___str__) .none kV_Term___str__ dc_Term___str__ pm_Term___str__ an_Term___str__ cd_Term___str__ ct_Term___str__), f_Term_parts, (PySem.W.fnOf "parts" "Term.parts" (defArgs s_Term_parts) (defBody s_Term_parts) (defScope s_Term_parts) .none kV_Term_parts dc_Term_parts pm_Term_parts an_Term_parts cd_Term_parts ct_Term_parts), f_Term___eq__, (PySem.W.fnOf "__eq__" "Term.__eq__" (defArgs s_Term___eq__) (defBody s_Term___eq__) (defScope s_Term___eq__) .none kV_Term___eq__ dc_Term___eq__ pm_Term___eq__ an_Term___eq__ cd_Term___eq__ ct_Term___eq__), f_Term_within, (PySem.W.fnOf "within" "Term.within" (defArgs s_Term_within) (defBody s_Term_within) (defScope s_Term_within) .none kV_Term_within dc_Term_within pm_Term_within an_Term_within cd_Term_within ct_Term_within), f_deed_parts, (PySem.W.fnOf "deed_parts" "deed_parts" (defArgs s_deed_parts) (defBody s_deed_parts) (defScope s_deed_parts) .none kV_deed_parts dc_deed_parts pm_deed_parts an_deed_parts cd_deed_parts ct_deed_parts), C_Deed, f_Deed___init__, (PySem.W.fnOf "__init__" "Deed.__init__" (defArgs s_Deed___init__) (defBody s_Deed___init__) (defScope s_Deed___init__) .none (.ref kD_Deed___init__) dc_Deed___init__ pm_Deed___init__ an_Deed___init__ cd_Deed___init__ ct_Deed___init__), f_Deed_of, (PySem.W.fnOf "of" "Deed.of" (defArgs s_Deed_of) (defBody s_Deed_of) (defScope s_Deed_of) .none kV_Deed_of dc_Deed_of pm_Deed_of an_Deed_of cd_Deed_of ct_Deed_of), p_Deed_of, f_Deed_variable, (PySem.W.fnOf "variable" "Deed.variable" (defArgs s_Deed_variable) (defBody s_Deed_variable) (defScope s_Deed_variable) .none kV_Deed_variable dc_Deed_variable pm_Deed_variable an_Deed_variable cd_Deed_variable ct_Deed_variable), p_Deed_variable, f_Deed_term, (PySem.W.fnOf "term" "Deed.term" (defArgs s_Deed_term) (defBody s_Deed_term) (defScope s_Deed_term) .none kV_Deed_term dc_Deed_term pm_Deed_term an_Deed_term cd_Deed_term ct_Deed_term), p_Deed_term, f_Deed_late, (PySem.W.fnOf "late" "Deed.late" (defArgs s_Deed_late) (defBody s_Deed_late) (defScope s_Deed_late) .none kV_Deed_late dc_Deed_late pm_Deed_late an_Deed_late cd_Deed_late ct_Deed_late), p_Deed_late, f_Deed_delayed, (PySem.W.fnOf "delayed" "Deed.delayed" (defArgs s_Deed_delayed) (defBody s_Deed_delayed) (defScope s_Deed_delayed) .none kV_Deed_delayed dc_Deed_delayed pm_Deed_delayed an_Deed_delayed cd_Deed_delayed ct_Deed_delayed), f_Deed___str__, (PySem.W.fnOf "__str__" "Deed.__str__" (defArgs s_Deed___str__) (defBody s_Deed___str__) (defScope s_Deed___str__) .none kV_Deed___str__ dc_Deed___str__ pm_Deed___str__ an_Deed___str__ cd_Deed___str__ ct_Deed___str__), f_Deed___eq__, (PySem.W.fnOf "__eq__" "Deed.__eq__" (defArgs s_Deed___eq__) (defBody s_Deed___eq__) (defScope s_Deed___eq__) .none kV_Deed___eq__ dc_Deed___eq__ pm_Deed___eq__ an_Deed___eq__ cd_Deed___eq__ ct_Deed___eq__), f__law_pool, (PySem.W.fnOf "_law_pool" "_law_pool" (defArgs s__law_pool) (defBody s__law_pool) (defScope s__law_pool) .none kV__law_pool dc__law_pool pm__law_pool an__law_pool cd__law_pool ct__law_pool), f__law_take, (PySem.W.fnOf "_law_take" "_law_take" (defArgs s__law_take) (defBody s__law_take) (defScope s__law_take) .none kV__law_take dc__law_take pm__law_take an__law_take cd__law_take ct__law_take), f__law_one, (PySem.W.fnOf "_law_one" "_law_one" (defArgs s__law_one) (defBody s__law_one) (defScope s__law_one) .none kV__law_one dc__law_one pm__law_one an__law_one cd__law_one ct__law_one), f__law_words, (PySem.W.fnOf "_law_words" "_law_words" (defArgs s__law_words) (defBody s__law_words) (defScope s__law_words) .none kV__law_words dc__law_words pm__law_words an__law_words cd__law_words ct__law_words), f__law_tree, (PySem.W.fnOf "_law_tree" "_law_tree" (defArgs s__law_tree) (defBody s__law_tree) (defScope s__law_tree) .none kV__law_tree dc__law_tree pm__law_tree an__law_tree cd__law_tree ct__law_tree), f__law_tree_text, (PySem.W.fnOf "_law_tree_text" "_law_tree_text" (defArgs s__law_tree_text) (defBody s__law_tree_text) (defScope s__law_tree_text) .none kV__law_tree_text dc__law_tree_text pm__law_tree_text an__law_tree_text cd__law_tree_text ct__law_tree_text), f__law_deed_text, (PySem.W.fnOf "_law_deed_text" "_law_deed_text" (defArgs s__law_deed_text) (defBody s__law_deed_text) (defScope s__law_deed_text) .none kV__law_deed_text dc__law_deed_text pm__law_deed_text an__law_deed_text cd__law_deed_text ct__law_deed_text), f__law_deeds_drawn, (PySem.W.fnOf "_law_deeds_drawn" "_law_deeds_drawn" (defArgs s__law_deeds_drawn) (defBody s__law_deeds_drawn) (defScope s__law_deeds_drawn) .none kV__law_deeds_drawn dc__law_deeds_drawn pm__law_deeds_drawn an__law_deeds_drawn cd__law_deeds_drawn ct__law_deeds_drawn), f__law_told, (PySem.W.fnOf "_law_told" "_law_told" (defArgs s__law_told) (defBody s__law_told) (defScope s__law_told) .none kV__law_told dc__law_told pm__law_told an__law_told cd__law_told ct__law_told), f__law_tried, (PySem.W.fnOf "_law_tried" "_law_tried" (defArgs s__law_tried) (defBody s__law_tried) (defScope s__law_tried) .none kV__law_tried dc__law_tried pm__law_tried an__law_tried cd__law_tried ct__law_tried), f__law_is_term, (PySem.W.fnOf "_law_is_term" "_law_is_term" (defArgs s__law_is_term) (defBody s__law_is_term) (defScope s__law_is_term) .none kV__law_is_term dc__law_is_term pm__law_is_term an__law_is_term cd__law_is_term ct__law_is_term), f__law_is_word, (PySem.W.fnOf "_law_is_word" "_law_is_word" (defArgs s__law_is_word) (defBody s__law_is_word) (defScope s__law_is_word) .none kV__law_is_word dc__law_is_word pm__law_is_word an__law_is_word cd__law_is_word ct__law_is_word), f__law_due, (PySem.W.fnOf "_law_due" "_law_due" (defArgs s__law_due) (defBody s__law_due) (defScope s__law_due) .none kV__law_due dc__law_due pm__law_due an__law_due cd__law_due ct__law_due), f__law_bent, (PySem.W.fnOf "_law_bent" "_law_bent" (defArgs s__law_bent) (defBody s__law_bent) (defScope s__law_bent) .none kV__law_bent dc__law_bent pm__law_bent an__law_bent cd__law_bent ct__law_bent), f_law, (PySem.W.fnOf "law" "law" (defArgs s_law) (defBody s_law) (defScope s_law) .none kV_law dc_law pm_law an_law (.ref cc_law) ct_law), cc_law, P_law⟩, ⟨?p_g_TiedError, ?p_te_NoTerm, ?p_kb_NoTerm_TiedError, ?p_e_NoTerm, ?p_te_NoDeed, ?p_kb_NoDeed_TiedError, ?p_e_NoDeed, ?p_v_LETTERS, ?p_v_DIGITS, ?p_v_MOST_LETTERS, ?p_is_whole, ?p_is_number, ?p_is_word, ?p_is_digit, ?p_v_MOST_DEPTH, ?p_v_MOST_CONSTANT, ?p_v_SIGNS, ?p_w_SIGNS, ?p_word_at, ?p_plan_at, ?p_text_of, ?p_stands_in, ?p_plan_of, ?p_g_Term, ?p_c_Term, ?p_kp_Term, ?p_ty_Term, ?p_mo_Term, ?p_kit_Term_NoneType, ?p_kit_Term_bool, ?p_kit_Term_int, ?p_kit_Term_str, ?p_kit_Term_list, ?p_kit_Term_tuple, ?p_kit_Term_dict, ?p_kit_Term, ?p_Term___init__, ?p_b_Term___init__, ?p_mk_Term, ?p_Term_choice, ?p_b_Term_choice, ?p_m_Term_choice, ?p_Term___str__, ?p_b_Term___str__, ?p_m_Term___str__, ?p_fm_Term, ?p_Term_parts, ?p_b_Term_parts, ?p_m_Term_parts, ?p_Term___eq__, ?p_b_Term___eq__, ?p_m_Term___eq__, ?p_nf_Term, ?p_ne_Term, ?p_Term_within, ?p_b_Term_within, ?p_m_Term_within, ?p_no_Term_tree, ?p_v_AT_ONCE, ?p_v_AT_THE_END, ?p_deed_parts, ?p_g_Deed, ?p_c_Deed, ?p_kp_Deed, ?p_ty_Deed, ?p_mo_Deed, ?p_kit_Deed_NoneType, ?p_kit_Deed_bool, ?p_kit_Deed_int, ?p_kit_Deed_str, ?p_kit_Deed_list, ?p_kit_Deed_tuple, ?p_kit_Deed_dict, ?p_kit_Deed, ?p_Deed___init__, ?p_kb_Deed___init__, ?p_kd_Deed___init__, ?p_mk_Deed, ?p_Deed_of, ?p_b_Deed_of, ?p_m_Deed_of, ?p_Deed_variable, ?p_b_Deed_variable, ?p_p_Deed_variable, ?p_Deed_term, ?p_b_Deed_term, ?p_p_Deed_term, ?p_Deed_late, ?p_b_Deed_late, ?p_p_Deed_late, ?p_Deed_delayed, ?p_b_Deed_delayed, ?p_m_Deed_delayed, ?p_Deed___str__, ?p_b_Deed___str__, ?p_m_Deed___str__, ?p_fm_Deed, ?p_Deed___eq__, ?p_b_Deed___eq__, ?p_m_Deed___eq__, ?p_nf_Deed, ?p_ne_Deed, ?p_no_Deed_is_late, ?p_no_Deed_source, ?p_no_Deed_target, ?p__law_pool, ?p__law_take, ?p__law_one, ?p__law_words, ?p__law_tree, ?p__law_tree_text, ?p__law_deed_text, ?p__law_deeds_drawn, ?p__law_told, ?p__law_tried, ?p__law_is_term, ?p__law_is_word, ?p__law_due, ?p__law_bent, ?p_cv_law, ?p_np_law, ?p_co_law, ?p_ta_law, ?p_law, ?p_blaw, ?p_bi, ?p_tn, ?p_tt⟩⟩
  case p_g_TiedError => exact PySem.W.mg_of X G h_g_TiedError
  case p_te_NoTerm => exact h_te_NoTerm
  case p_kb_NoTerm_TiedError => exact h_kb_NoTerm_TiedError
  case p_e_NoTerm => exact ⟨PySem.W.mg_of X G h_g_NoTerm, ⟨_, _, _, _, _, _, _, _, _, _, _, _, _, _, _, h_l_NoTerm, h_r_NoTerm⟩, h_s_NoTerm, h_n_NoTerm, h_i_NoTerm, h_t_NoTerm, h_k_NoTerm, h_x_NoTerm, h_v_NoTerm, h_y_NoTerm, xfB_ok h_xf_NoTerm, ⟨_, _, _, _, _, _, _, _, _, _, _, _, _, _, _, _, _, _, _, _, _, _, _, _, _, _, _, _, _, _, _, _, _, h_fn_NoTerm, h_cd_NoTerm, h_lc_NoTerm, h_v2_NoTerm, h_fi_NoTerm, h_ln_NoTerm, h_ce_NoTerm⟩, PySem.W.mg_none_of X G h_sup, h_topS, h_se_NoTerm, h_up_NoTerm, h_opq, by decide, by decide, by decide, by decide, bd_value⟩
  case p_te_NoDeed => exact h_te_NoDeed
  case p_kb_NoDeed_TiedError => exact h_kb_NoDeed_TiedError
  case p_e_NoDeed => exact ⟨PySem.W.mg_of X G h_g_NoDeed, ⟨_, _, _, _, _, _, _, _, _, _, _, _, _, _, _, h_l_NoDeed, h_r_NoDeed⟩, h_s_NoDeed, h_n_NoDeed, h_i_NoDeed, h_t_NoDeed, h_k_NoDeed, h_x_NoDeed, h_v_NoDeed, h_y_NoDeed, xfB_ok h_xf_NoDeed, ⟨_, _, _, _, _, _, _, _, _, _, _, _, _, _, _, _, _, _, _, _, _, _, _, _, _, _, _, _, _, _, _, _, _, h_fn_NoDeed, h_cd_NoDeed, h_lc_NoDeed, h_v2_NoDeed, h_fi_NoDeed, h_ln_NoDeed, h_ce_NoDeed⟩, PySem.W.mg_none_of X G h_sup, h_topS, h_se_NoDeed, h_up_NoDeed, h_opq, by decide, by decide, by decide, by decide, bd_value⟩
  case p_v_LETTERS => exact ⟨_, PySem.W.mg_of X G h_v_LETTERS⟩
  case p_v_DIGITS => exact ⟨_, PySem.W.mg_of X G h_v_DIGITS⟩
  case p_v_MOST_LETTERS => exact ⟨_, PySem.W.mg_of X G h_v_MOST_LETTERS⟩
  case p_is_whole => exact ⟨PySem.W.mg_of X G h_a_is_whole, fun_mk (st := s_is_whole) h_l_is_whole h_c_is_whole h_k_is_whole, (fun_mk (st := s_is_whole) h_l_is_whole h_c_is_whole h_k_is_whole).binds (ps := ["value"]) fun _ _ _ _ _ _ us hl => match us, hl with | [_], _ => rfl⟩
  case p_is_number => exact ⟨PySem.W.mg_of X G h_a_is_number, fun_mk (st := s_is_number) h_l_is_number h_c_is_number h_k_is_number, (fun_mk (st := s_is_number) h_l_is_number h_c_is_number h_k_is_number).binds (ps := ["value", "low", "high"]) fun _ _ _ _ _ _ us hl => match us, hl with | [_, _, _], _ => rfl⟩
  case p_is_word => exact ⟨PySem.W.mg_of X G h_a_is_word, fun_mk (st := s_is_word) h_l_is_word h_c_is_word h_k_is_word, (fun_mk (st := s_is_word) h_l_is_word h_c_is_word h_k_is_word).binds (ps := ["value"]) fun _ _ _ _ _ _ us hl => match us, hl with | [_], _ => rfl⟩
  case p_is_digit => exact ⟨PySem.W.mg_of X G h_a_is_digit, fun_mk (st := s_is_digit) h_l_is_digit h_c_is_digit h_k_is_digit, (fun_mk (st := s_is_digit) h_l_is_digit h_c_is_digit h_k_is_digit).binds (ps := ["value"]) fun _ _ _ _ _ _ us hl => match us, hl with | [_], _ => rfl⟩
  case p_v_MOST_DEPTH => exact ⟨_, PySem.W.mg_of X G h_v_MOST_DEPTH⟩
  case p_v_MOST_CONSTANT => exact ⟨_, PySem.W.mg_of X G h_v_MOST_CONSTANT⟩
  case p_v_SIGNS => exact PySem.W.mg_of X G h_v_SIGNS
  case p_w_SIGNS => exact fun H => .inr ⟨_, _, _, h_w_SIGNS, rfl, rfl, by show 5 ≤ sizeLine; decide, by repeat (first | exact .nil | refine .cons ⟨_, rfl⟩ ?_)⟩
  case p_word_at => exact ⟨PySem.W.mg_of X G h_a_word_at, fun_mk (st := s_word_at) h_l_word_at h_c_word_at h_k_word_at, (fun_mk (st := s_word_at) h_l_word_at h_c_word_at h_k_word_at).binds (ps := ["text", "at"]) fun _ _ _ _ _ _ us hl => match us, hl with | [_, _], _ => rfl⟩
  case p_plan_at => exact ⟨PySem.W.mg_of X G h_a_plan_at, fun_mk (st := s_plan_at) h_l_plan_at h_c_plan_at h_k_plan_at, (fun_mk (st := s_plan_at) h_l_plan_at h_c_plan_at h_k_plan_at).binds (ps := ["text", "at", "deep"]) fun _ _ _ _ _ _ us hl => match us, hl with | [_, _, _], _ => rfl⟩
  case p_text_of => exact ⟨PySem.W.mg_of X G h_a_text_of, fun_mk (st := s_text_of) h_l_text_of h_c_text_of h_k_text_of, (fun_mk (st := s_text_of) h_l_text_of h_c_text_of h_k_text_of).binds (ps := ["plan"]) fun _ _ _ _ _ _ us hl => match us, hl with | [_], _ => rfl⟩
  case p_stands_in => exact ⟨PySem.W.mg_of X G h_a_stands_in, fun_mk (st := s_stands_in) h_l_stands_in h_c_stands_in h_k_stands_in, (fun_mk (st := s_stands_in) h_l_stands_in h_c_stands_in h_k_stands_in).binds (ps := ["plan", "whole"]) fun _ _ _ _ _ _ us hl => match us, hl with | [_, _], _ => rfl⟩
  case p_plan_of => exact ⟨PySem.W.mg_of X G h_a_plan_of, fun_mk (st := s_plan_of) h_l_plan_of h_c_plan_of h_k_plan_of, (fun_mk (st := s_plan_of) h_l_plan_of h_c_plan_of h_k_plan_of).binds (ps := ["value"]) fun _ _ _ _ _ _ us hl => match us, hl with | [_], _ => rfl⟩
  case p_g_Term => exact PySem.W.mg_of X G h_g_Term
  case p_c_Term => exact ⟨h_pg_Term, h_hd_Term, h_po_Term, h_sa_Term⟩
  case p_kp_Term => exact h_kp_Term
  case p_ty_Term => exact h_ty_Term
  case p_mo_Term => exact h_mo_Term
  case p_kit_Term_NoneType => exact h_kit_Term_NoneType
  case p_kit_Term_bool => exact h_kit_Term_bool
  case p_kit_Term_int => exact h_kit_Term_int
  case p_kit_Term_str => exact h_kit_Term_str
  case p_kit_Term_list => exact h_kit_Term_list
  case p_kit_Term_tuple => exact h_kit_Term_tuple
  case p_kit_Term_dict => exact h_kit_Term_dict
  case p_kit_Term => exact h_kit_Term
  case p_Term___init__ => exact fun_mk (st := s_Term___init__) h_l_Term___init__ h_c_Term___init__ h_k_Term___init__
  case p_b_Term___init__ => exact (fun_mk (st := s_Term___init__) h_l_Term___init__ h_c_Term___init__ h_k_Term___init__).binds (ps := ["self", "value"]) fun _ _ _ _ _ _ us hl => match us, hl with | [_, _], _ => rfl
  case p_mk_Term => exact ⟨h_mk_Term, h_a_Term___init__, h_i_Term___init__, h_kp_Term⟩
  case p_Term_choice => exact fun_mk (st := s_Term_choice) h_l_Term_choice h_c_Term_choice h_k_Term_choice
  case p_b_Term_choice => exact (fun_mk (st := s_Term_choice) h_l_Term_choice h_c_Term_choice h_k_Term_choice).binds (ps := ["one", "other", "same", "unlike"]) fun _ _ _ _ _ _ us hl => match us, hl with | [_, _, _, _], _ => rfl
  case p_m_Term_choice => exact ⟨h_r1_Term_choice, h_r2_Term_choice, h_r3_Term_choice, ⟨_, h_r4_Term_choice⟩, h_k_Term_choice⟩
  case p_Term___str__ => exact fun_mk (st := s_Term___str__) h_l_Term___str__ h_c_Term___str__ h_k_Term___str__
  case p_b_Term___str__ => exact (fun_mk (st := s_Term___str__) h_l_Term___str__ h_c_Term___str__ h_k_Term___str__).binds (ps := ["self"]) fun _ _ _ _ _ _ us hl => match us, hl with | [_], _ => rfl
  case p_m_Term___str__ => exact ⟨h_a_Term___str__, h_i_Term___str__, h_k_Term___str__⟩
  case p_fm_Term => exact h_fm_Term
  case p_Term_parts => exact fun_mk (st := s_Term_parts) h_l_Term_parts h_c_Term_parts h_k_Term_parts
  case p_b_Term_parts => exact (fun_mk (st := s_Term_parts) h_l_Term_parts h_c_Term_parts h_k_Term_parts).binds (ps := ["self"]) fun _ _ _ _ _ _ us hl => match us, hl with | [_], _ => rfl
  case p_m_Term_parts => exact ⟨h_a_Term_parts, h_i_Term_parts, h_k_Term_parts⟩
  case p_Term___eq__ => exact fun_mk (st := s_Term___eq__) h_l_Term___eq__ h_c_Term___eq__ h_k_Term___eq__
  case p_b_Term___eq__ => exact (fun_mk (st := s_Term___eq__) h_l_Term___eq__ h_c_Term___eq__ h_k_Term___eq__).binds (ps := ["self", "other"]) fun _ _ _ _ _ _ us hl => match us, hl with | [_, _], _ => rfl
  case p_m_Term___eq__ => exact ⟨h_a_Term___eq__, h_i_Term___eq__, h_k_Term___eq__⟩
  case p_nf_Term => exact h_nf_Term
  case p_ne_Term => exact h_ne_Term
  case p_Term_within => exact fun_mk (st := s_Term_within) h_l_Term_within h_c_Term_within h_k_Term_within
  case p_b_Term_within => exact (fun_mk (st := s_Term_within) h_l_Term_within h_c_Term_within h_k_Term_within).binds (ps := ["self", "other"]) fun _ _ _ _ _ _ us hl => match us, hl with | [_, _], _ => rfl
  case p_m_Term_within => exact ⟨h_a_Term_within, h_i_Term_within, h_k_Term_within⟩
  case p_no_Term_tree => exact h_no_Term_tree
  case p_v_AT_ONCE => exact ⟨_, PySem.W.mg_of X G h_v_AT_ONCE⟩
  case p_v_AT_THE_END => exact ⟨_, PySem.W.mg_of X G h_v_AT_THE_END⟩
  case p_deed_parts => exact ⟨PySem.W.mg_of X G h_a_deed_parts, fun_mk (st := s_deed_parts) h_l_deed_parts h_c_deed_parts h_k_deed_parts, (fun_mk (st := s_deed_parts) h_l_deed_parts h_c_deed_parts h_k_deed_parts).binds (ps := ["text"]) fun _ _ _ _ _ _ us hl => match us, hl with | [_], _ => rfl⟩
  case p_g_Deed => exact PySem.W.mg_of X G h_g_Deed
  case p_c_Deed => exact ⟨h_pg_Deed, h_hd_Deed, h_po_Deed, h_sa_Deed⟩
  case p_kp_Deed => exact h_kp_Deed
  case p_ty_Deed => exact h_ty_Deed
  case p_mo_Deed => exact h_mo_Deed
  case p_kit_Deed_NoneType => exact h_kit_Deed_NoneType
  case p_kit_Deed_bool => exact h_kit_Deed_bool
  case p_kit_Deed_int => exact h_kit_Deed_int
  case p_kit_Deed_str => exact h_kit_Deed_str
  case p_kit_Deed_list => exact h_kit_Deed_list
  case p_kit_Deed_tuple => exact h_kit_Deed_tuple
  case p_kit_Deed_dict => exact h_kit_Deed_dict
  case p_kit_Deed => exact h_kit_Deed
  case p_Deed___init__ => exact fun_mk (st := s_Deed___init__) h_l_Deed___init__ h_c_Deed___init__ h_k_Deed___init__
  case p_kb_Deed___init__ => exact (by obtain ⟨mv, h⟩ := (show FunD K "__init__" "Deed.__init__" (defArgs s_Deed___init__) (defBody s_Deed___init__) (defScope s_Deed___init__) [] [("late", .bl false)] f_Deed___init__ (PySem.W.fnOf "__init__" "Deed.__init__" (defArgs s_Deed___init__) (defBody s_Deed___init__) (defScope s_Deed___init__) .none (.ref kD_Deed___init__) dc_Deed___init__ pm_Deed___init__ an_Deed___init__ cd_Deed___init__ ct_Deed___init__) from ⟨⟨_, _, _, _, _, _, _, _, _, _, rfl, h_l_Deed___init__, h_c_Deed___init__, .inl ⟨rfl, rfl⟩, .inr ⟨_, rfl, fun q hq => by obtain rfl := List.mem_singleton.mp hq; exact ⟨_, h_kw_Deed___init___late, rfl⟩⟩⟩, h_k_Deed___init__⟩).kbinds0 (ps := ["self", "variable", "term", "late"]) 3 ["late"] [] (fun us _ ws => us ++ ws) (by decide) (fun q hq => nomatch hq) (fun r1 r2 r3 => r1.append r3) (fun _ _ _ _ _ _ us mv ws l1 l2 l3 => match us, ws, l1, l3 with | [_, _, _], [_], _, _ => rfl); exact h)
  case p_kd_Deed___init__ => exact ((show FunD K "__init__" "Deed.__init__" (defArgs s_Deed___init__) (defBody s_Deed___init__) (defScope s_Deed___init__) [] [("late", .bl false)] f_Deed___init__ (PySem.W.fnOf "__init__" "Deed.__init__" (defArgs s_Deed___init__) (defBody s_Deed___init__) (defScope s_Deed___init__) .none (.ref kD_Deed___init__) dc_Deed___init__ pm_Deed___init__ an_Deed___init__ cd_Deed___init__ ct_Deed___init__) from ⟨⟨_, _, _, _, _, _, _, _, _, _, rfl, h_l_Deed___init__, h_c_Deed___init__, .inl ⟨rfl, rfl⟩, .inr ⟨_, rfl, fun q hq => by obtain rfl := List.mem_singleton.mp hq; exact ⟨_, h_kw_Deed___init___late, rfl⟩⟩⟩, h_k_Deed___init__⟩).binds0 (ps := ["self", "variable", "term", "late"]) 3 (by decide) (by rfl) (fun _ _ _ _ _ _ us ks l1 l2 => match us, ks, l1, l2 with | [_, _, _], [_], _, _ => ⟨_, _, _, _, _, _, rfl, rfl, rfl⟩))
  case p_mk_Deed => exact ⟨h_mk_Deed, h_a_Deed___init__, h_i_Deed___init__, h_kp_Deed⟩
  case p_Deed_of => exact fun_mk (st := s_Deed_of) h_l_Deed_of h_c_Deed_of h_k_Deed_of
  case p_b_Deed_of => exact (fun_mk (st := s_Deed_of) h_l_Deed_of h_c_Deed_of h_k_Deed_of).binds (ps := ["text"]) fun _ _ _ _ _ _ us hl => match us, hl with | [_], _ => rfl
  case p_m_Deed_of => exact ⟨h_r1_Deed_of, h_r2_Deed_of, h_r3_Deed_of, ⟨_, h_r4_Deed_of⟩, h_k_Deed_of⟩
  case p_Deed_variable => exact fun_mk (st := s_Deed_variable) h_l_Deed_variable h_c_Deed_variable h_k_Deed_variable
  case p_b_Deed_variable => exact (fun_mk (st := s_Deed_variable) h_l_Deed_variable h_c_Deed_variable h_k_Deed_variable).binds (ps := ["self"]) fun _ _ _ _ _ _ us hl => match us, hl with | [_], _ => rfl
  case p_p_Deed_variable => exact ⟨h_q1_Deed_variable, h_q2_Deed_variable, h_q3_Deed_variable, ⟨_, h_q4_Deed_variable⟩⟩
  case p_Deed_term => exact fun_mk (st := s_Deed_term) h_l_Deed_term h_c_Deed_term h_k_Deed_term
  case p_b_Deed_term => exact (fun_mk (st := s_Deed_term) h_l_Deed_term h_c_Deed_term h_k_Deed_term).binds (ps := ["self"]) fun _ _ _ _ _ _ us hl => match us, hl with | [_], _ => rfl
  case p_p_Deed_term => exact ⟨h_q1_Deed_term, h_q2_Deed_term, h_q3_Deed_term, ⟨_, h_q4_Deed_term⟩⟩
  case p_Deed_late => exact fun_mk (st := s_Deed_late) h_l_Deed_late h_c_Deed_late h_k_Deed_late
  case p_b_Deed_late => exact (fun_mk (st := s_Deed_late) h_l_Deed_late h_c_Deed_late h_k_Deed_late).binds (ps := ["self"]) fun _ _ _ _ _ _ us hl => match us, hl with | [_], _ => rfl
  case p_p_Deed_late => exact ⟨h_q1_Deed_late, h_q2_Deed_late, h_q3_Deed_late, ⟨_, h_q4_Deed_late⟩⟩
  case p_Deed_delayed => exact fun_mk (st := s_Deed_delayed) h_l_Deed_delayed h_c_Deed_delayed h_k_Deed_delayed
  case p_b_Deed_delayed => exact (fun_mk (st := s_Deed_delayed) h_l_Deed_delayed h_c_Deed_delayed h_k_Deed_delayed).binds (ps := ["self"]) fun _ _ _ _ _ _ us hl => match us, hl with | [_], _ => rfl
  case p_m_Deed_delayed => exact ⟨h_a_Deed_delayed, h_i_Deed_delayed, h_k_Deed_delayed⟩
  case p_Deed___str__ => exact fun_mk (st := s_Deed___str__) h_l_Deed___str__ h_c_Deed___str__ h_k_Deed___str__
  case p_b_Deed___str__ => exact (fun_mk (st := s_Deed___str__) h_l_Deed___str__ h_c_Deed___str__ h_k_Deed___str__).binds (ps := ["self"]) fun _ _ _ _ _ _ us hl => match us, hl with | [_], _ => rfl
  case p_m_Deed___str__ => exact ⟨h_a_Deed___str__, h_i_Deed___str__, h_k_Deed___str__⟩
  case p_fm_Deed => exact h_fm_Deed
  case p_Deed___eq__ => exact fun_mk (st := s_Deed___eq__) h_l_Deed___eq__ h_c_Deed___eq__ h_k_Deed___eq__
  case p_b_Deed___eq__ => exact (fun_mk (st := s_Deed___eq__) h_l_Deed___eq__ h_c_Deed___eq__ h_k_Deed___eq__).binds (ps := ["self", "other"]) fun _ _ _ _ _ _ us hl => match us, hl with | [_, _], _ => rfl
  case p_m_Deed___eq__ => exact ⟨h_a_Deed___eq__, h_i_Deed___eq__, h_k_Deed___eq__⟩
  case p_nf_Deed => exact h_nf_Deed
  case p_ne_Deed => exact h_ne_Deed
  case p_no_Deed_is_late => exact h_no_Deed_is_late
  case p_no_Deed_source => exact h_no_Deed_source
  case p_no_Deed_target => exact h_no_Deed_target
  case p__law_pool => exact ⟨PySem.W.mg_of X G h_a__law_pool, fun_mk (st := s__law_pool) h_l__law_pool h_c__law_pool h_k__law_pool, (fun_mk (st := s__law_pool) h_l__law_pool h_c__law_pool h_k__law_pool).binds (ps := ["script", "k"]) fun _ _ _ _ _ _ us hl => match us, hl with | [_, _], _ => rfl⟩
  case p__law_take => exact ⟨PySem.W.mg_of X G h_a__law_take, fun_mk (st := s__law_take) h_l__law_take h_c__law_take h_k__law_take, (fun_mk (st := s__law_take) h_l__law_take h_c__law_take h_k__law_take).binds (ps := ["pool", "bound"]) fun _ _ _ _ _ _ us hl => match us, hl with | [_, _], _ => rfl⟩
  case p__law_one => exact ⟨PySem.W.mg_of X G h_a__law_one, fun_mk (st := s__law_one) h_l__law_one h_c__law_one h_k__law_one, (fun_mk (st := s__law_one) h_l__law_one h_c__law_one h_k__law_one).binds (ps := ["pool", "things"]) fun _ _ _ _ _ _ us hl => match us, hl with | [_, _], _ => rfl⟩
  case p__law_words => exact ⟨PySem.W.mg_of X G h_a__law_words, fun_mk (st := s__law_words) h_l__law_words h_c__law_words h_k__law_words, (fun_mk (st := s__law_words) h_l__law_words h_c__law_words h_k__law_words).binds (ps := ["pool", "bound"]) fun _ _ _ _ _ _ us hl => match us, hl with | [_, _], _ => rfl⟩
  case p__law_tree => exact ⟨PySem.W.mg_of X G h_a__law_tree, fun_mk (st := s__law_tree) h_l__law_tree h_c__law_tree h_k__law_tree, (fun_mk (st := s__law_tree) h_l__law_tree h_c__law_tree h_k__law_tree).binds (ps := ["pool", "words", "digits", "deep"]) fun _ _ _ _ _ _ us hl => match us, hl with | [_, _, _, _], _ => rfl⟩
  case p__law_tree_text => exact ⟨PySem.W.mg_of X G h_a__law_tree_text, fun_mk (st := s__law_tree_text) h_l__law_tree_text h_c__law_tree_text h_k__law_tree_text, (fun_mk (st := s__law_tree_text) h_l__law_tree_text h_c__law_tree_text h_k__law_tree_text).binds (ps := ["tree"]) fun _ _ _ _ _ _ us hl => match us, hl with | [_], _ => rfl⟩
  case p__law_deed_text => exact ⟨PySem.W.mg_of X G h_a__law_deed_text, fun_mk (st := s__law_deed_text) h_l__law_deed_text h_c__law_deed_text h_k__law_deed_text, (fun_mk (st := s__law_deed_text) h_l__law_deed_text h_c__law_deed_text h_k__law_deed_text).binds (ps := ["deed"]) fun _ _ _ _ _ _ us hl => match us, hl with | [_], _ => rfl⟩
  case p__law_deeds_drawn => exact ⟨PySem.W.mg_of X G h_a__law_deeds_drawn, fun_mk (st := s__law_deeds_drawn) h_l__law_deeds_drawn h_c__law_deeds_drawn h_k__law_deeds_drawn, (fun_mk (st := s__law_deeds_drawn) h_l__law_deeds_drawn h_c__law_deeds_drawn h_k__law_deeds_drawn).binds (ps := ["pool", "written", "words", "digits", "bound", "deep"]) fun _ _ _ _ _ _ us hl => match us, hl with | [_, _, _, _, _, _], _ => rfl⟩
  case p__law_told => exact ⟨PySem.W.mg_of X G h_a__law_told, fun_mk (st := s__law_told) h_l__law_told h_c__law_told h_k__law_told, (fun_mk (st := s__law_told) h_l__law_told h_c__law_told h_k__law_told).binds (ps := ["deed"]) fun _ _ _ _ _ _ us hl => match us, hl with | [_], _ => rfl⟩
  case p__law_tried => exact ⟨PySem.W.mg_of X G h_a__law_tried, fun_mk (st := s__law_tried) h_l__law_tried h_c__law_tried h_k__law_tried, (fun_mk (st := s__law_tried) h_l__law_tried h_c__law_tried h_k__law_tried).binds (ps := ["function"]) fun _ _ _ _ _ _ us hl => match us, hl with | [_], _ => rfl⟩
  case p__law_is_term => exact ⟨PySem.W.mg_of X G h_a__law_is_term, fun_mk (st := s__law_is_term) h_l__law_is_term h_c__law_is_term h_k__law_is_term, (fun_mk (st := s__law_is_term) h_l__law_is_term h_c__law_is_term h_k__law_is_term).binds (ps := ["text"]) fun _ _ _ _ _ _ us hl => match us, hl with | [_], _ => rfl⟩
  case p__law_is_word => exact ⟨PySem.W.mg_of X G h_a__law_is_word, fun_mk (st := s__law_is_word) h_l__law_is_word h_c__law_is_word h_k__law_is_word, (fun_mk (st := s__law_is_word) h_l__law_is_word h_c__law_is_word h_k__law_is_word).binds (ps := ["thing"]) fun _ _ _ _ _ _ us hl => match us, hl with | [_], _ => rfl⟩
  case p__law_due => exact ⟨PySem.W.mg_of X G h_a__law_due, fun_mk (st := s__law_due) h_l__law_due h_c__law_due h_k__law_due, (fun_mk (st := s__law_due) h_l__law_due h_c__law_due h_k__law_due).binds (ps := ["text"]) fun _ _ _ _ _ _ us hl => match us, hl with | [_], _ => rfl⟩
  case p__law_bent => exact ⟨PySem.W.mg_of X G h_a__law_bent, fun_mk (st := s__law_bent) h_l__law_bent h_c__law_bent h_k__law_bent, (fun_mk (st := s__law_bent) h_l__law_bent h_c__law_bent h_k__law_bent).binds (ps := ["pool", "text"]) fun _ _ _ _ _ _ us hl => match us, hl with | [_, _], _ => rfl⟩
  case p_cv_law => exact rfl
  case p_np_law => exact h_np_law
  case p_co_law => exact fun h X => by obtain ⟨file, tf, flags, tg, inF, text, tt, e1, e2, e3, e4, e5, e6⟩ := h_vx_law; exact ⟨_, _, file, tf, flags, tg, inF, text, tt, X _ _ h_lc_law, rfl, rfl, h_v11_law, e1, e2, e3, e4, e5, e6⟩
  case p_ta_law => exact fun h o => o _ _ _ _ _ _ _ _ h_l_law rfl rfl h_lc_law h_v11_law
  case p_law => exact ⟨PySem.W.mg_of X G h_a_law, fun_mk (st := s_law) h_l_law h_c_law h_k_law, (fun_mk (st := s_law) h_l_law h_c_law h_k_law).binds (ps := ["script"]) fun _ _ _ _ _ _ us hl => match us, hl with | [_], _ => rfl⟩
  case p_blaw => exact fun s v => .of_eq rfl
  case p_bi => exact ⟨PySem.W.mg_none_of X G h_b_len, PySem.W.mg_none_of X G h_b_max, PySem.W.mg_none_of X G h_b_min, PySem.W.mg_none_of X G h_b_int, PySem.W.mg_none_of X G h_b_str, PySem.W.mg_none_of X G h_b_tuple, PySem.W.mg_none_of X G h_b_list, PySem.W.mg_none_of X G h_b_bool, PySem.W.mg_none_of X G h_b_dict, PySem.W.mg_none_of X G h_b_set, PySem.W.mg_none_of X G h_b_isinstance, PySem.W.mg_none_of X G h_b_sorted, PySem.W.mg_none_of X G h_b_repr, PySem.W.mg_none_of X G h_b_range, PySem.W.mg_none_of X G h_b_enumerate, PySem.W.mg_none_of X G h_b_zip, PySem.W.mg_none_of X G h_b_sum, PySem.W.mg_none_of X G h_b_all, PySem.W.mg_none_of X G h_b_any⟩
  case p_tn => exact h_tn
  case p_tt => exact h_tt
end Z
set_option maxRecDepth 100000
set_option maxHeartbeats 4000000
namespace Z
open PySem PySem.Spec PyProof.Rows L2
section
variable {P : Program} {w : World} {K : PySem.W.Frag} {mg : Str → Option Value} {base : Heap} {a : Ad}
def spWhole (K : PySem.W.Frag) : Sp := fun vs H Q _ => ∃ (x : V) (t : String) (r1 r2 : Bool), vs = [x] ∧ TyX K H x (.type t) ∧ kitB t "int" = some r1 ∧ kitB t "bool" = some r2 ∧ Q (.bl (r1 && !r2)) H
theorem ok_whole (T : Tx P K mg a) : FnOk P w K mg base CX0 1 a.f_is_whole a.d_is_whole ["value"] (spWhole K) := by
  refine T.is_whole.fn.ok sc_is_whole (fun vs H Q E h => ?_) (fun cdv A outer s H vs Q E hr h => ?_)
  · obtain ⟨x, t, r1, r2, rfl, _⟩ := h
    rfl
  · obtain ⟨x, t, r1, r2, rfl, ty, k1, k2, q⟩ := h
    refine ⟨_, (pss_one (ps_ret (pe_and (cb_isi T.bi (pa_cons (pv 0) (pa_cons (gl_ty rfl T.bi.int PyProof.Rows.boot_int) pa_nil))) (pe_one (pe_not (cb_isi T.bi (pa_cons (pv 0) (pa_cons (gl_ty rfl T.bi.bool PyProof.Rows.boot_bool) pa_nil)))))))), ?_⟩
    refine ⟨_, rfl, isiTy ty k1 ?_⟩
    cases r1 with
    | true =>
      refine ⟨_, rfl, ?_⟩
      refine ⟨_, rfl, isiTy ty k2 ?_⟩
      exact ⟨_, rfl, q⟩
    | false => exact ⟨_, rfl, q⟩
def spNumber (K : PySem.W.Frag) : Sp := fun vs H Q _ => ∃ (x : V) (lo hi : Int), vs = [x, .int lo, .int hi] ∧ ((∃ n, x = .int n ∧ Q (.bl (decide (lo ≤ n) && decide (n ≤ hi))) H) ∨ (∃ (t : String) (r1 r2 : Bool), TyX K H x (.type t) ∧ kitB t "int" = some r1 ∧ kitB t "bool" = some r2 ∧ (r1 && !r2) = false ∧ Q (.bl false) H))
theorem ok_number (T : Tx P K mg a) : FnOk P w K mg base CX0 2 a.f_is_number a.d_is_number ["value", "low", "high"] (spNumber K) := by
  have F1 : FnOk P w K mg base CX0 1 a.f_is_whole a.d_is_whole ["value"] (spWhole K) := ok_whole T
  refine T.is_number.fn.ok sc_is_number (fun vs H Q E h => ?_) (fun cdv A outer s H vs Q E hr h => ?_)
  · obtain ⟨x, lo, hi, rfl, _⟩ := h
    rfl
  · obtain ⟨x, lo, hi, rfl, h⟩ := h
    refine ⟨_, (pss_one (ps_ret (pe_and (pe_cf T.is_whole F1 hr (pa_cons (pv 0) pa_nil)) (pe_one (pe_chain op_le op_le (pv 1) (pv 0) (pv 2)))))), ?_⟩
    rcases h with ⟨n, rfl, q⟩ | ⟨t, r1, r2, ty, k1, k2, e, q⟩
    · refine ⟨_, rfl, _, "int", true, false, rfl, .base (.int n), k_ii, k_ib, ?_⟩
      refine ⟨_, rfl, ?_⟩
      refine ⟨_, rfl, _, rfl, lo, n, rfl, rfl, _, rfl, ?_⟩
      by_cases h1 : lo ≤ n
      · rw [decide_eq_true h1]
        refine ⟨_, rfl, n, hi, rfl, rfl, ?_⟩
        rw [decide_eq_true h1, Bool.true_and] at q
        exact q
      · rw [decide_eq_false h1]
        rw [decide_eq_false h1, Bool.false_and] at q
        exact q
    · refine ⟨_, rfl, _, t, r1, r2, rfl, ty, k1, k2, ?_⟩
      rw [e]
      exact ⟨_, rfl, q⟩
def spWord : Sp := fun vs H Q _ => ∃ z : Str, vs = [.str z] ∧ z.length ≤ sizeLine ∧ ∀ H', Same H H' → Q (.bl (wordB (ls z))) H'
theorem ok_word (T : Tx P K mg a) : FnOk P w K mg base CX0 1 a.f_is_word a.d_is_word ["value"] spWord := by
  refine T.is_word.fn.ok sc_is_word (fun vs H Q E h => ?_) (fun cdv A outer s H vs Q E hr h => ?_)
  · obtain ⟨z, rfl, _⟩ := h
    rfl
  · obtain ⟨z, rfl, hz, q⟩ := h
    have nd := sc_is_word.nd
    refine ⟨_, (pss_cons (ps_if (PW.pt (pw_or (pt_not (pt_val (cb_isi T.bi (pa_cons (pv 0) (pa_cons (gl_ty rfl T.bi.str PyProof.Rows.boot_str) pa_nil))))) (pw_or1 (pt_not (pt_chain op_le op_le pe_int (cb_len T.bi (pa_cons (pv 0) pa_nil)) (pe_gi T.v_MOST_LETTERS))))))
      (pss_one (ps_ret pe_bl)) pss_nil)
      (pss_one (ps_ret (pe_cmpR (op_eqX hr) (pe_lc (own := [("sign", 1)]) (by rfl) nd (pi_str (pv 0)) (blkOk_by (own := [("sign", 1)]) (N := ["value", "sign"]) (sc := defScope s_is_word) (by decide +kernel)) (fun _ _ _ _ _ => (pg_name (i := 1) nd rfl (Or.inl rfl))) (fun _ _ _ _ _ => pts_one (pt_cmpR (op_notInA (K := K)) (pv 1) (pe_gs T.v_LETTERS) rfl)) (fun _ _ _ _ _ => (pv 1))) (pe_lst pa_nil) (nomark _))))), ?_⟩
    refine ⟨_, rfl, isiTy (.base (.str z)) k_ss ?_⟩
    refine ⟨_, rfl, ?_⟩
    refine ⟨_, rfl, lenS hz ?_⟩
    refine ⟨1, _, rfl, rfl, _, rfl, ?_⟩
    have L : (z.length : Int) = ((ls z).length : Int) := by rw [ls_len]
    by_cases h1 : (1 : Int) ≤ (z.length : Int)
    · rw [decide_eq_true h1]
      refine ⟨_, 8, rfl, rfl, ?_⟩
      by_cases h2 : (z.length : Int) ≤ 8
      · refine ⟨_, rfl, ?_⟩
        rw [decide_eq_true h2]
        have hw : wordB (ls z) = (ls z).all isLB := by
          unfold wordB
          rw [decide_eq_true (show 1 ≤ (ls z).length by omega), decide_eq_true (show (ls z).length ≤ 8 by omega)]
          rfl
        refine ⟨_, rfl, z, rfl, fun D hD => ?_⟩
        refine lc_it (walk_str (z := z)) (fun i H' => ∃ acc : List V, H' D = some (.lst acc) ∧ Same H H' ∧ acc.length ≤ i ∧ acc.isEmpty = ((ls z).take i).all isLB) ⟨[], upd_same, sNew hD, Nat.le_refl _, rfl⟩ (fun _ _ _ _ => trivial) ?_ ?_
        · rintro i x H1 H1' hi ⟨acc, hA, sm, ln, em⟩ ⟨rfl, c, hc, rfl⟩
          refine ⟨rfl, _, rfl, ninSgn ?_⟩
          have hc' : (ls z)[i]? = some c := by
            show z.cps.toList[i]? = some c
            rw [Array.getElem?_toList]
            exact hc
          have tk : (ls z).take (i + 1) = (ls z).take i ++ [c] := by rw [List.take_succ, hc']; rfl
          refine ⟨_, rfl, ?_⟩
          rw [mem_let']
          cases hl : isLB c with
          | true => exact ⟨acc, hA, sm, Nat.le_succ_of_le ln, by rw [tk, List.all_append, ← em]; simp [hl]⟩
          | false =>
            have small : acc.length < sizeLine := by
              have : i < z.length := hi
              omega
            refine ⟨_, rfl, acc, hA, small, acc ++ [.str ⟨#[c]⟩], upd_same, fun b o e => ?_, by rw [List.length_append]; exact Nat.succ_le_succ ln, ?_⟩
            · rw [upd_ne (ne_of_none e hD)]
              exact sm b o e
            · rw [tk, List.all_append]
              simp [hl]
        · rintro H1 ⟨acc, hA, sm, ln, em⟩
          refine ⟨Nat.zero_le _, fun p hp => ?_⟩
          refine eqL0 (.inl (.inl (by rw [upd_ne (ne_of_none hA hp)]; exact hA))) upd_same ?_
          have : (ls z).take z.cps.size = ls z := List.take_of_length_le (by simp [ls])
          rw [em, this, ← hw]
          exact q _ (sm.trans (sNew hp))
      · refine ⟨_, rfl, ?_⟩
        rw [decide_eq_false h2]
        have hw : wordB (ls z) = false := by
          unfold wordB
          rw [decide_eq_false (show ¬ (ls z).length ≤ 8 by omega), Bool.and_false, Bool.false_and]
        rw [hw] at q
        exact q _ (fun _ _ e => e)
    · rw [decide_eq_false h1]
      have hw : wordB (ls z) = false := by
        unfold wordB
        rw [decide_eq_false (show ¬ 1 ≤ (ls z).length by omega), Bool.false_and, Bool.false_and]
      rw [hw] at q
      exact ⟨_, rfl, q _ (fun _ _ e => e)⟩
def spDigit : Sp := fun vs H Q _ => ∃ c : Nat, vs = [.str (tx [c])] ∧ Q (.bl (isDB c)) H
theorem ok_digit (T : Tx P K mg a) : FnOk P w K mg base CX0 1 a.f_is_digit a.d_is_digit ["value"] spDigit := by
  refine T.is_digit.fn.ok sc_is_digit (fun vs H Q E h => ?_) (fun cdv A outer s H vs Q E hr h => ?_)
  · obtain ⟨z, rfl, _⟩ := h
    rfl
  · obtain ⟨c, rfl, q⟩ := h
    refine ⟨_, (pss_one (ps_ret (pe_and (cb_isi T.bi (pa_cons (pv 0) (pa_cons (gl_ty rfl T.bi.str PyProof.Rows.boot_str) pa_nil))) (pe_and (pe_cmpR (op_eqX hr) (cb_len T.bi (pa_cons (pv 0) pa_nil)) pe_int (nomark _)) (pe_one (pe_cmpR op_inA (pv 0) (pe_gs T.v_DIGITS) rfl)))))), ?_⟩
    refine ⟨_, rfl, isiTy (.base (.str _)) k_ss ?_⟩
    refine ⟨_, rfl, ?_⟩
    refine ⟨_, rfl, lenS (by rw [tx_len]; show 1 ≤ sizeLine; decide) ?_⟩
    refine eqI ?_
    rw [tx_len]
    refine ⟨_, rfl, ?_⟩
    refine ⟨_, rfl, inSgn ?_⟩
    rw [mem_dig']
    exact q
theorem take_next {l : List Nat} {i : Nat} {c : Nat} (h : l[i]? = some c) : l.drop i = c :: l.drop (i + 1) := by
  obtain ⟨h1, h2⟩ := List.getElem?_eq_some_iff.mp h
  rw [List.drop_eq_getElem_cons h1, h2]
def spWordAt : Sp := fun vs H Q _ => ∃ (z : Str) (i : Nat), vs = [.str z, .int i] ∧ i ≤ z.length ∧ z.length ≤ sizeLine ∧ Q (.str (tx (((ls z).drop i).takeWhile isLB))) H
theorem ok_word_at (T : Tx P K mg a) : FnOk P w K mg base CX0 1 a.f_word_at a.d_word_at ["text", "at"] spWordAt := by
  refine T.word_at.fn.ok sc_word_at (fun vs H Q E h => ?_) (fun cdv A outer s H vs Q E hr h => ?_)
  · obtain ⟨z, i, rfl, _⟩ := h
    rfl
  · obtain ⟨z, i, rfl, hi, hz, q⟩ := h
    have nd := sc_word_at.nd
    refine ⟨_, (pss_cons (ps_set (i := 2) nd rfl (Or.inl rfl) (pv 1))
      (pss_cons (ps_while PassesOwn.never (PW.pt (pw_and (pt_cmpR op_lt (pv 2) (cb_len T.bi (pa_cons (pv 0) pa_nil)) (nomark _)) (pw_and1 (pt_cmpR op_inA (pe_ix ix_A (pv 0) (pv 2) (fun _ _ => rfl)) (pe_gs T.v_LETTERS) rfl))))
        (pss_one (ps_aug (i := 2) nd rfl (Or.inl rfl) pe_int ip_add)))
      (pss_one (ps_ret (pe_slice sl_str (pv 0) (po_some (pv 1)) (po_some (pv 2))))))), ?_⟩
    refine ⟨_, rfl, ?_⟩
    refine ⟨fun m σ H' => ∃ j : Nat, m = z.length - j ∧ i ≤ j ∧ j ≤ z.length ∧ H' = H ∧ σ = [some (.str z), some (.int (i : Nat)), some (.int (j : Nat))] ∧ ((ls z).drop i).takeWhile isLB = ((ls z).drop i).take (j - i) ++ ((ls z).drop j).takeWhile isLB,
      ⟨_, i, rfl, Nat.le_refl _, hi, rfl, rfl, by rw [Nat.sub_self]; rfl⟩, ?_⟩
    rintro m σ H' ⟨j, rfl, hij, hj, rfl, rfl, tw⟩
    refine ⟨_, rfl, _, rfl, lenS hz ?_⟩
    have fin : ((ls z).drop j).takeWhile isLB = [] → Q (.str (cutS z (some (i : Nat)) (some (j : Nat)))) H' := fun e => by
      have : cutS z (some (i : Nat)) (some (j : Nat)) = tx (((ls z).drop i).takeWhile isLB) := by
        rw [tw, e, List.append_nil]
        unfold cutS tx
        rw [HT.sIx_nat, HT.sIx_nat, Nat.min_eq_left hi, Nat.min_eq_left hj]
        rfl
      rw [this]
      exact q
    refine ⟨_, _, rfl, rfl, _, rfl, ?_⟩
    by_cases hl : j < z.length
    · rw [decide_eq_true (Int.ofNat_lt.mpr hl)]
      obtain ⟨c, hc⟩ : ∃ c, (ls z)[j]? = some c := ⟨_, List.getElem?_eq_getElem (by rw [ls_len]; exact hl)⟩
      refine ⟨_, rfl, _, rfl, ixS hz hc ?_⟩
      refine inSgn ?_
      rw [mem_let']
      have dj := take_next hc
      refine ⟨_, rfl, ?_⟩
      cases lb : isLB c with
      | true =>
        refine ⟨_, fun σ' H' h => h, ?_⟩
        refine ⟨_, rfl, _, _, rfl, rfl, ?_⟩
        refine ⟨z.length - (j + 1), by omega, j + 1, rfl, by omega, hl, rfl, by simp, ?_⟩
        rw [tw, dj, List.takeWhile_cons, if_pos lb]
        rw [show j + 1 - i = (j - i) + 1 by omega, List.take_succ]
        have : ((ls z).drop i)[j - i]? = some c := by
          rw [List.getElem?_drop, show i + (j - i) = j by omega]
          exact hc
        rw [this]
        simp
      | false =>
        refine ⟨_, rfl, _, rfl, _, rfl, _, rfl, _, rfl, z, rfl, hz, ?_⟩
        exact fin (by rw [dj, List.takeWhile_cons, lb]; rfl)
    · rw [decide_eq_false (fun h => hl (Int.ofNat_lt.mp h))]
      exact ⟨_, rfl, _, rfl, _, rfl, _, rfl, _, rfl, z, rfl, hz, fin (by rw [List.drop_eq_nil_of_le (by rw [ls_len]; omega)]; rfl)⟩
end
end Z
set_option maxRecDepth 100000
set_option maxHeartbeats 4000000
namespace Z
open PySem PySem.Spec PyProof.Rows L2
theorem tx1 {a b : Nat} : tx [a] = tx [b] ↔ a = b := by
  constructor
  · intro h
    have := congrArg ls h
    rw [ls_tx, ls_tx] at this
    simpa using this
  · rintro rfl
    rfl
theorem dig_int {c : Nat} (h : isDB c = true) : PySem.intText? (tx [c]) = some ((c : Int) - 48) := by
  have : c = 48 ∨ c = 49 ∨ c = 50 ∨ c = 51 ∨ c = 52 ∨ c = 53 ∨ c = 54 ∨ c = 55 ∨ c = 56 ∨ c = 57 := by
    unfold isDB at h
    simp at h
    omega
  rcases this with rfl | rfl | rfl | rfl | rfl | rfl | rfl | rfl | rfl | rfl <;> decide +kernel
theorem drop_word {l : List Nat} {i : Nat} {p : Nat → Bool} : l.drop (i + ((l.drop i).takeWhile p).length) = (l.drop i).dropWhile p := by
  rw [← List.drop_drop]
  have := List.takeWhile_append_dropWhile (p := p) (l := l.drop i)
  conv => lhs; arg 2; rw [← this]
  exact List.drop_left
def Got (K : PySem.W.Frag) (H : Hp) (z : Str) (v : V) : Option (Tr × List Nat) → Prop
  | none => v = .non
  | some (t, r) => ∃ (p : Addr) (j : Nat) (u : V), v = .ref p ∧ j ≤ z.length ∧ (ls z).drop j = r ∧ H p = some (.tup [u, .int (j : Nat)]) ∧ Dp K H u t.d
def spPlanAt (K : PySem.W.Frag) (d : Nat) : Sp := fun vs H Q _ => ∃ (z : Str) (i : Nat), vs = [.str z, .int (i : Nat), .int (d : Nat)] ∧ i ≤ z.length ∧ z.length ≤ sizeLine ∧ 1 ≤ d ∧ ∀ v H', Same H H' → Got K H' z v (pl d ((ls z).drop i)) → Q v H'
def codes : List Nat := [61, 63, 58, 41]
def plm (us : List Tr) : Option (List Tr × List Nat) → Option (List Tr × List Nat)
  | some (ts, q) => some (us ++ ts, q)
  | none => none
theorem dpAll_tk {K : PySem.W.Frag} {H H' : Hp} (k : TK H H') : ∀ {us : List V} {ts : List Tr}, DpAll K H us (ts.map Tr.d) → DpAll K H' us (ts.map Tr.d)
  | _, [], h => by
    cases h
    exact .nil
  | _, t :: ts, h => by
    cases h with
    | cons h1 h2 => exact .cons (tr_tk k t h1) (dpAll_tk k h2)
section
variable {P : Program} {w : World} {K : PySem.W.Frag} {mg : Str → Option Value} {base : Heap} {a : Ad}
theorem fnNo {CX : CXT} {k : Nat} {f : Addr} {fd : FuncData} {ps : List Str} {sp : Sp} (h : ∀ vs H Q E, sp vs H Q E → False) : FnOk P w K mg base CX k f fd ps sp :=
  ⟨fun vs H Q E z => (h _ _ _ _ z).elim, fun A outer s H args us vs Q E _ _ _ _ z => (h _ _ _ _ z).elim⟩
theorem ok_plan_at (T : Tx P K mg a) : ∀ d : Nat, FnOk P w K mg base CX0 (d + 1) a.f_plan_at a.d_plan_at ["text", "at", "deep"] (spPlanAt K d)
  | 0 => fnNo fun vs H Q E ⟨z, i, _, _, _, h, _⟩ => by omega
  | d + 1 => by
    have IH : FnOk P w K mg base CX0 (d + 1) a.f_plan_at a.d_plan_at ["text", "at", "deep"] (spPlanAt K d) := ok_plan_at T d
    have Fd : FnOk P w K mg base CX0 1 a.f_is_digit a.d_is_digit ["value"] spDigit := ok_digit T
    have Fw : FnOk P w K mg base CX0 1 a.f_is_word a.d_is_word ["value"] spWord := ok_word T
    have Fa : FnOk P w K mg base CX0 1 a.f_word_at a.d_word_at ["text", "at"] spWordAt := ok_word_at T
    refine T.plan_at.fn.ok sc_plan_at (fun vs H Q E h => ?_) (fun cdv A outer s H vs Q E hr h => ?_)
    · obtain ⟨z, i, rfl, _⟩ := h
      rfl
    · obtain ⟨z, i, rfl, hi, hz, _, q⟩ := h
      have nd := sc_plan_at.nd
      have hr1 : Room 1 _ := hr.mono (by omega)
      refine ⟨_, (pss_cons (ps_if (PW.pt (pw_and (pt_cmpR op_lt (pv 1) (cb_len T.bi (pa_cons (pv 0) pa_nil)) (nomark _)) (pw_and1 (pt_val (pe_cf T.is_digit Fd hr1 (pa_cons (pe_ix ix_A (pv 0) (pv 1) (fun _ _ => rfl)) pa_nil))))))
        (pss_one (ps_ret (pe_tup (pa_cons (cb_int T.bi (pa_cons (pe_ix ix_A (pv 0) (pv 1) (fun _ _ => rfl)) pa_nil)) (pa_cons (pe_op op_addA (pv 1) pe_int) pa_nil))))) pss_nil)
        (pss_cons (ps_set (i := 3) nd rfl (Or.inl rfl) (pe_cf T.word_at Fa hr1 (pa_cons (pv 0) (pa_cons (pv 1) pa_nil))))
        (pss_cons (ps_if (pt_val (pe_cf T.is_word Fw hr1 (pa_cons (pv 3) pa_nil)))
          (pss_one (ps_ret (pe_tup (pa_cons (pv 3) (pa_cons (pe_op op_addA (pv 1) (cb_len T.bi (pa_cons (pv 3) pa_nil))) pa_nil))))) pss_nil)
        (pss_cons (ps_if (PW.pt (pw_or (pt_cmpR op_ge (pv 1) (cb_len T.bi (pa_cons (pv 0) pa_nil)) (nomark _)) (pw_or (pt_cmpR (op_neX hr) (pe_ix ix_A (pv 0) (pv 1) (fun _ _ => rfl)) (pe_ix ix_A (pe_gr T.v_SIGNS) pe_int (fun _ _ => rfl)) (nomark _)) (pw_or1 (pt_cmpR (op_eqX hr) (pv 2) pe_int (nomark _))))))
          (pss_one (ps_ret pe_non)) pss_nil)
        (pss_cons (ps_set (i := 4) nd rfl (Or.inl rfl) (pe_lst pa_nil))
        (pss_cons (ps_for PassesOwn.never rfl (pi_tup (pe_slice sl_tupA (pe_gr T.v_SIGNS) (po_some pe_int) po_none)) (pg_name (i := 5) nd rfl (Or.inl rfl))
          (pss_cons (ps_set (i := 6) nd rfl (Or.inl rfl) (pe_cf T.plan_at IH hr (pa_cons (pv 0) (pa_cons (pe_op op_addA (pv 1) pe_int) (pa_cons (pe_op op_sub (pv 2) pe_int) pa_nil)))))
          (pss_cons (ps_if (PW.pt (pw_or (pt_cmp (pc_isN (pv 6))) (pw_or (pt_cmpR op_ge (pe_ix ix_A (pv 6) pe_int (fun _ _ => rfl)) (cb_len T.bi (pa_cons (pv 0) pa_nil)) (nomark _)) (pw_or1 (pt_cmpR (op_neX hr) (pe_ix ix_A (pv 0) (pe_ix ix_A (pv 6) pe_int (fun _ _ => rfl)) (fun _ _ => rfl)) (pv 5) (nomark _))))))
            (pss_one (ps_ret pe_non)) pss_nil)
          (pss_cons (ps_asg (pv 6) (pg_tup rfl (pgs_cons (pg_name (i := 7) nd rfl (Or.inl rfl)) (pgs_cons (pg_name (i := 1) nd rfl (Or.inl rfl)) pgs_nil))))
          (pss_one (ps_expr (pe_bm PySem.F.plainAttrs_list PySem.F.slot_list_append PySem.F.type_list_append mt_append (pv 4) (pa_cons (pv 7) pa_nil))))))))
        (pss_one (ps_ret (pe_tup (pa_cons (cb_tuple T.bi (pa_cons (pv 4) pa_nil)) (pa_cons (pe_op op_addA (pv 1) pe_int) pa_nil))))))))))), ?_⟩
      refine ⟨_, rfl, _, rfl, lenS hz ?_⟩
      refine ⟨_, _, rfl, rfl, _, rfl, ?_⟩
      by_cases hl : i < z.length
      · rw [decide_eq_true (Int.ofNat_lt.mpr hl)]
        obtain ⟨c, hc⟩ : ∃ c, (ls z)[i]? = some c := ⟨_, List.getElem?_eq_getElem (by rw [ls_len]; exact hl)⟩
        have dj := take_next hc
        rw [dj] at q
        refine ⟨_, rfl, _, rfl, ixS hz hc ?_⟩
        refine ⟨c, rfl, ?_⟩
        refine ⟨_, rfl, ?_⟩
        have e1 : (i : Int) + 1 = ((i + 1 : Nat) : Int) := rfl
        cases hd : isDB c with
        | true =>
          refine ⟨_, rfl, _, rfl, ixS hz hc ?_⟩
          refine intS (dig_int hd) (by rw [tx_len]; show 1 ≤ 640; decide) ?_
          refine ⟨_, rfl, ?_⟩
          refine addI ?_
          refine ⟨by show 2 ≤ sizeLine; decide, fun p hp => ?_⟩
          refine q _ _ (sNew hp) ?_
          unfold pl
          rw [if_pos hd]
          exact ⟨p, i + 1, _, rfl, hl, rfl, upd_same, .int _⟩
        | false =>
          refine ⟨_, rfl, _, rfl, z, i, rfl, hi, hz, ?_⟩
          rw [dj]
          generalize hw : (c :: (ls z).drop (i + 1)).takeWhile isLB = l
          have ll : l.length ≤ z.length := by
            have h1 := (List.takeWhile_sublist (p := isLB) (l := c :: (ls z).drop (i + 1))).length_le
            rw [hw, ← dj, List.length_drop, ls_len] at h1
            omega
          refine ⟨_, rfl, tx l, rfl, by rw [tx_len]; omega, fun H1 s1 => ?_⟩
          refine ⟨_, rfl, ?_⟩
          rw [ls_tx]
          cases hwb : wordB l with
          | true =>
            refine ⟨_, rfl, _, rfl, _, rfl, lenS (by rw [tx_len]; omega) ?_⟩
            refine addI ?_
            refine ⟨by show 2 ≤ sizeLine; decide, fun p hp => ?_⟩
            refine q _ _ (s1.trans (sNew hp)) ?_
            unfold pl
            rw [if_neg (by rw [hd]; exact Bool.false_ne_true), hw, if_pos hwb]
            refine ⟨p, i + l.length, _, rfl, ?_, ?_, ?_, .str _⟩
            · have h1 := (List.takeWhile_sublist (p := isLB) (l := c :: (ls z).drop (i + 1))).length_le
              rw [hw, ← dj, List.length_drop, ls_len] at h1
              omega
            · rw [← hw, ← dj]
              exact drop_word
            · rw [tx_len, upd_same]
              rfl
          | false =>
            have plk : pl (d + 1) (c :: (ls z).drop (i + 1)) = if c ≠ 40 ∨ d = 0 then none else plx (plp (pl d) codes ((ls z).drop (i + 1))) := by
              conv => lhs; unfold pl
              rw [if_neg (by rw [hd]; exact Bool.false_ne_true), hw, if_neg (by rw [hwb]; exact Bool.false_ne_true)]
              rfl
            refine ⟨_, rfl, _, rfl, lenS hz ?_⟩
            refine ⟨_, _, rfl, rfl, _, rfl, ?_⟩
            rw [decide_eq_false (show ¬ (z.length : Int) ≤ (i : Int) by omega)]
            refine ⟨_, rfl, _, rfl, ixS hz hc ?_⟩
            refine ixT (i := 0) (T.w_SIGNS _) rfl ?_
            refine neS ?_
            refine ⟨_, rfl, ?_⟩
            by_cases h40 : c = 40
            · subst h40
              rw [decide_eq_true (show tx [40] = ("(" : Str) by decide +kernel)]
              refine ⟨_, rfl, eqI ?_⟩
              refine ⟨_, rfl, ?_⟩
              by_cases h0 : d = 0
              · subst h0
                refine q _ _ s1 ?_
                rw [plk, if_pos (.inr rfl)]
                rfl
              · rw [decide_eq_false (show ¬ ((d + 1 : Nat) : Int) = 1 by omega)]
                rw [plk, if_neg (by omega)] at q
                refine ⟨Nat.zero_le _, fun l0 hl0 => ?_⟩
                refine ⟨1, rfl, a.v_SIGNS, [V.str "(", .str "=", .str "?", .str ":", .str ")"], rfl, T.w_SIGNS _, fun h => absurd h.1 (by decide), fun _ p0 hp0 => ?_⟩
                have cv : cutV [V.str "(", .str "=", .str "?", .str ":", .str ")"] (some 1) none = [V.str "=", .str "?", .str ":", .str ")"] := rfl
                rw [cv]
                have s2 : Same H (upd (upd H1 l0 (.lst [])) p0 (.tup [V.str "=", .str "?", .str ":", .str ")"])) := (s1.trans (sNew hl0)).trans (sNew hp0)
                have n0 : l0 ≠ p0 := ne_of_none (H := upd H1 l0 (.lst [])) upd_same hp0
                refine ⟨p0, rfl, ⟨_, .inl (.inl upd_same)⟩, ?_⟩
                refine for_it (walk_tup (xs := [V.str "=", .str "?", .str ":", .str ")"])) (fun n σ H' => ∃ (ts : List Tr) (us : List V) (j : Nat) (o5 o6 o7 : Option V), σ = [some (.str z), some (.int (j : Nat)), some (.int ((d + 1 : Nat) : Int)), some (.str (tx l)), some (.ref l0), o5, o6, o7] ∧
                    H' l0 = some (.lst us) ∧ DpAll K H' us (ts.map Tr.d) ∧ ts.length = n ∧ j < z.length ∧ Same H H' ∧ H' p0 = some (.tup [V.str "=", .str "?", .str ":", .str ")"]) ∧
                    plp (pl d) codes ((ls z).drop (i + 1)) = plm ts (plp (pl d) (codes.drop n) ((ls z).drop (j + 1))))
                  ⟨[], [], i, none, none, none, rfl, by rw [upd_ne n0, upd_same], .nil, rfl, hl, s2, upd_same, ?_⟩ (fun n σ H' _ ⟨ts, us, j, o5, o6, o7, _, _, _, _, _, _, hp, _⟩ => .inl (.inl hp)) ?_ ?_
                · show _ = plm [] (plp (pl d) codes ((ls z).drop (i + 1)))
                  cases plp (pl d) codes ((ls z).drop (i + 1)) with
                  | none => rfl
                  | some x => rfl
                · rintro n x σ H2 H2' hn ⟨ts, us, j, o5, o6, o7, rfl, hL, hD, lenT, hj, s3, hP, hp⟩ ⟨rfl, hx⟩
                  obtain ⟨sg, hsg, rfl⟩ : ∃ sg, codes[n]? = some sg ∧ x = .str (tx [sg]) := by
                    have hn' : n < 4 := hn
                    have : n = 0 ∨ n = 1 ∨ n = 2 ∨ n = 3 := by omega
                    rcases this with rfl | rfl | rfl | rfl <;> cases hx
                    · exact ⟨61, rfl, by decide +kernel⟩
                    · exact ⟨63, rfl, by decide +kernel⟩
                    · exact ⟨58, rfl, by decide +kernel⟩
                    · exact ⟨41, rfl, by decide +kernel⟩
                  have dn : codes.drop n = sg :: codes.drop (n + 1) := take_next hsg
                  rw [dn] at hp
                  refine ⟨_, rfl, _, rfl, addI ?_⟩
                  refine ⟨_, rfl, _, _, rfl, rfl, ?_⟩
                  refine ⟨z, j + 1, by show [V.str z, V.int ((j : Int) + 1), V.int (((d + 1 : Nat) : Int) - 1)] = _; rw [show ((d + 1 : Nat) : Int) - 1 = (d : Int) by omega]; rfl, hj, hz, by omega, fun v H3 s4 got => ?_⟩
                  have s5 := s3.trans s4
                  have hL3 := s4 _ _ hL
                  have hP3 := s4 _ _ hP
                  have hD3 := dpAll_same s4 hD
                  refine ⟨_, rfl, ?_⟩
                  cases hf : pl d ((ls z).drop (j + 1)) with
                  | none =>
                    rw [hf] at got
                    obtain rfl : v = .non := got
                    refine ⟨_, rfl, ?_⟩
                    refine q _ _ s5 ?_
                    rw [hp]
                    unfold plp
                    rw [hf]
                    rfl
                  | some tr =>
                    obtain ⟨t, r⟩ := tr
                    rw [hf] at got
                    obtain ⟨pf, jj, u, rfl, hjj, hr', hpf, hdu⟩ := got
                    refine ⟨_, rfl, ?_⟩
                    refine ⟨_, rfl, ixT (i := 1) (.inl (.inl hpf)) rfl ?_⟩
                    refine ⟨_, rfl, lenS hz ?_⟩
                    refine ⟨_, _, rfl, rfl, _, rfl, ?_⟩
                    by_cases hjl : jj < z.length
                    · rw [decide_eq_false (show ¬ (z.length : Int) ≤ (jj : Int) by omega)]
                      obtain ⟨c2, hc2⟩ : ∃ c, (ls z)[jj]? = some c := ⟨_, List.getElem?_eq_getElem (by rw [ls_len]; exact hjl)⟩
                      have dj2 := take_next hc2
                      rw [dj2] at hr'
                      subst hr'
                      refine ⟨_, rfl, _, rfl, ixT (i := 1) (.inl (.inl hpf)) rfl ?_⟩
                      refine ixS hz hc2 ?_
                      refine ⟨_, rfl, neS ?_⟩
                      refine ⟨_, rfl, ?_⟩
                      by_cases hcs : c2 = sg
                      · subst hcs
                        rw [decide_eq_true rfl]
                        refine ⟨_, rfl, pf, _, rfl, .inl (.inl hpf), rfl, ?_⟩
                        have hlen : us.length < sizeLine := by
                          have h1 := DpAll.length hD
                          rw [List.length_map, lenT] at h1
                          rw [h1]
                          have hn' : n < 4 := hn
                          exact Nat.lt_trans hn' (by decide)
                        refine ⟨_, _, rfl, _, _, rfl, rfl, ?_⟩
                        refine ⟨_, rfl, .inl ⟨rfl, us, .inl (.inl hL3)⟩, _, rfl, l0, us, u, rfl, rfl, hL3, hlen, ?_⟩
                        have s6 : Same H (upd H3 l0 (.lst (us ++ [u]))) := fun b o e => by
                          rw [upd_ne (ne_of_none e (s1.free hl0))]
                          exact s5 b o e
                        have tkk : TK H3 (upd H3 l0 (.lst (us ++ [u]))) := TK.lst hL3
                        refine ⟨ts ++ [t], us ++ [u], jj, _, _, _, rfl, upd_same, ?_, by rw [List.length_append, lenT]; rfl, hjl, s6, by rw [upd_ne n0.symm]; exact hP3, ?_⟩
                        · exact dpAll_tk (ts := ts ++ [t]) tkk (by rw [List.map_append]; exact DpAll.app hD3 (.cons hdu .nil))
                        · rw [hp]
                          conv => lhs; unfold plp
                          rw [hf]
                          simp only [if_true]
                          cases plp (pl d) (codes.drop (n + 1)) ((ls z).drop (jj + 1)) with
                          | none => rfl
                          | some y =>
                            obtain ⟨ts2, q2⟩ := y
                            show some (ts ++ t :: ts2, q2) = some ((ts ++ [t]) ++ ts2, q2)
                            rw [List.append_assoc]
                            rfl
                      · rw [decide_eq_false (fun e => hcs (tx1.mp e))]
                        refine q _ _ s5 ?_
                        rw [hp]
                        unfold plp
                        rw [hf]
                        simp only [if_neg hcs]
                        rfl
                    · rw [decide_eq_true (show (z.length : Int) ≤ (jj : Int) by omega)]
                      refine q _ _ s5 ?_
                      have : r = [] := by rw [← hr']; exact List.drop_eq_nil_of_le (by rw [ls_len]; omega)
                      subst this
                      rw [hp]
                      unfold plp
                      rw [hf]
                      rfl
                · rintro σ H2 ⟨ts, us, j, o5, o6, o7, rfl, hL, hD, lenT, hj, s3, hP, hp⟩
                  refine ⟨_, rfl, tupL (.inl (.inl hL)) fun p1 H3 n1 s4 h1 => ?_⟩
                  refine ⟨_, rfl, addI ?_⟩
                  refine ⟨by show 2 ≤ sizeLine; decide, fun p hpn => ?_⟩
                  refine q _ _ ((s3.trans s4).trans (sNew hpn)) ?_
                  rw [hp]
                  match ts, lenT with
                  | [t1, t2, t3, t4], _ =>
                    refine ⟨p, j + 1, _, rfl, hj, rfl, upd_same, ?_⟩
                    have hD' := dpAll_same (s4.trans (sNew hpn (o := .tup [V.ref p1, V.int ((j : Int) + 1)]))) hD
                    exact .tup (.inl (.inl (sNew hpn _ _ h1))) hD'
            · rw [decide_eq_false (fun e => h40 (tx1.mp (e.trans (show ("(" : Str) = tx [40] by decide +kernel))))]
              refine q _ _ s1 ?_
              rw [plk, if_pos (.inl h40)]
              rfl
      · rw [decide_eq_false (fun h => hl (Int.ofNat_lt.mp h))]
        have e0 : (ls z).drop i = [] := List.drop_eq_nil_of_le (by rw [ls_len]; omega)
        rw [e0] at q
        refine ⟨_, rfl, _, rfl, z, i, rfl, hi, hz, ?_⟩
        rw [e0]
        refine ⟨_, rfl, _, rfl, (by decide), fun H1 s1 => ?_⟩
        refine ⟨_, rfl, ?_⟩
        refine ⟨_, rfl, _, rfl, lenS hz ?_⟩
        refine ⟨_, _, rfl, rfl, _, rfl, ?_⟩
        rw [decide_eq_true (show (z.length : Int) ≤ (i : Int) by omega)]
        exact q _ _ s1 rfl
end
end Z
set_option maxRecDepth 100000
set_option maxHeartbeats 4000000
namespace Z
open PySem PySem.Spec PyProof.Rows L2
section
variable {P : Program} {w : World} {K : PySem.W.Frag} {mg : Str → Option Value} {base : Heap} {a : Ad}
theorem sUpd {H H' : Hp} {D : Addr} {o : HO} (hD : H D = none) (s : Same H H') : Same H (upd H' D o) := fun b u e => by
  rw [upd_ne (ne_of_none e hD)]
  exact s b u e
theorem tr_same {H H' : Hp} (e : Same H H') {t : Tr} {v : V} (h : Dp K H v t.d) : Dp K H' v t.d := dp_same e h
def Tr.kids : Tr → List Tr
  | .cho a b c e => [a, b, c, e]
  | _ => []
theorem get4 {v1 v2 v3 v4 x : V} {a b c e : Tr} {i : Nat} {H : Hp} (h : [v1, v2, v3, v4][i]? = some x) (h1 : Dp K H v1 a.d) (h2 : Dp K H v2 b.d) (h3 : Dp K H v3 c.d) (h4 : Dp K H v4 e.d) : ∃ t, [a, b, c, e][i]? = some t ∧ Dp K H x t.d := by
  match i, h with
  | 0, h => exact ⟨a, rfl, by cases h; exact h1⟩
  | 1, h => exact ⟨b, rfl, by cases h; exact h2⟩
  | 2, h => exact ⟨c, rfl, by cases h; exact h3⟩
  | 3, h => exact ⟨e, rfl, by cases h; exact h4⟩
theorem mem4 {a b c e t : Tr} {i : Nat} (h : [a, b, c, e][i]? = some t) : t = a ∨ t = b ∨ t = c ∨ t = e := by
  match i, h with
  | 0, h => cases h; exact .inl rfl
  | 1, h => cases h; exact .inr (.inl rfl)
  | 2, h => cases h; exact .inr (.inr (.inl rfl))
  | 3, h => cases h; exact .inr (.inr (.inr rfl))
theorem kid_deep {a b c e t : Tr} {i : Nat} (h : [a, b, c, e][i]? = some t) : t.deep + 1 ≤ (Tr.cho a b c e).deep := by
  have : (Tr.cho a b c e).deep = 1 + max (max a.deep b.deep) (max c.deep e.deep) := rfl
  rcases mem4 h with rfl | rfl | rfl | rfl <;> omega
theorem kid_ok {a b c e t : Tr} {i : Nat} (h : [a, b, c, e][i]? = some t) (ok : (Tr.cho a b c e).Ok) : t.Ok := by
  obtain ⟨oa, ob, oc, oe⟩ : a.Ok ∧ b.Ok ∧ c.Ok ∧ e.Ok := ok
  rcases mem4 h with rfl | rfl | rfl | rfl <;> assumption
theorem int_small {n : Int} (h : 0 ≤ n ∧ n ≤ 9) : n.natAbs.log2 < 1920 := Nat.lt_of_le_of_lt (Nat.log2_le_self _) (by omega)
def spText (K : PySem.W.Frag) (n : Nat) : Sp := fun vs H Q _ => ∃ (v : V) (t : Tr), vs = [v] ∧ Dp K H v t.d ∧ t.Ok ∧ t.deep ≤ n ∧ n ≤ 4 ∧ ∀ H', Same H H' → Q (.str t.text) H'
theorem join_text (a b c e : Tr) : Str.empty ++ "(" ++ a.text ++ "=" ++ b.text ++ "?" ++ c.text ++ ":" ++ e.text ++ ")" = (Tr.cho a b c e).text := by
  apply str_ext
  rw [cho_text]
  simp only [ls_app]
  have h0 : ls Str.empty = [] := rfl
  have h1 : ls ("(" : Str) = [40] := by decide +kernel
  have h2 : ls ("=" : Str) = [61] := by decide +kernel
  have h3 : ls ("?" : Str) = [63] := by decide +kernel
  have h4 : ls (":" : Str) = [58] := by decide +kernel
  have h5 : ls (")" : Str) = [41] := by decide +kernel
  rw [h0, h1, h2, h3, h4, h5]
  simp
theorem ok_text (T : Tx P K mg a) : ∀ n : Nat, FnOk P w K mg base CX0 (n + 1) a.f_text_of a.d_text_of ["plan"] (spText K n)
  | 0 => fnNo fun vs H Q E ⟨v, t, _, _, _, h, _⟩ => by
    have := deep_pos t
    omega
  | n + 1 => by
    have IH : FnOk P w K mg base CX0 (n + 1) a.f_text_of a.d_text_of ["plan"] (spText K n) := ok_text T n
    refine T.text_of.fn.ok sc_text_of (fun vs H Q E h => ?_) (fun cdv A outer s H vs Q E hr h => ?_)
    · obtain ⟨v, t, rfl, _⟩ := h
      rfl
    · obtain ⟨v, t, rfl, hv, ok, hd, hn, q⟩ := h
      have nd := sc_text_of.nd
      refine ⟨_, (pss_cons (ps_if (pt_not (pt_val (cb_isi T.bi (pa_cons (pv 0) (pa_cons (gl_ty rfl T.bi.tuple PyProof.Rows.boot_tuple) pa_nil)))))
        (pss_one (ps_ret (cb_str T.bi (pa_cons (pv 0) pa_nil)))) pss_nil)
        (pss_cons (ps_asg (pe_lc (own := [("part", 5)]) (by rfl) nd (pi_tup (pv 0)) (blkOk_by (own := [("part", 5)]) (N := ["plan", "one", "other", "same", "unlike", "part"]) (sc := defScope s_text_of) (by decide +kernel)) (fun _ _ _ _ _ => (pg_name (i := 5) nd rfl (Or.inl rfl))) (fun _ _ _ _ _ => pts_nil) (fun _ _ _ _ _ => (pe_cf T.text_of IH hr (pa_cons (pv 5) pa_nil)))) (pg_unl rfl (pgs_cons (pg_name (i := 1) nd rfl (Or.inl rfl)) (pgs_cons (pg_name (i := 2) nd rfl (Or.inl rfl)) (pgs_cons (pg_name (i := 3) nd rfl (Or.inl rfl)) (pgs_cons (pg_name (i := 4) nd rfl (Or.inl rfl)) pgs_nil))))))
        (pss_one (ps_ret (pe_joined (PJ.cons pe_str (PJ.cons (pe_fmt (pv 1)) (PJ.cons pe_str (PJ.cons (pe_fmt (pv 2)) (PJ.cons pe_str (PJ.cons (pe_fmt (pv 3)) (PJ.cons pe_str (PJ.cons (pe_fmt (pv 4)) (PJ.cons pe_str PJ.nil)))))))))))))), ?_⟩
      refine ⟨_, rfl, isiTr hv ?_⟩
      refine ⟨_, rfl, ?_⟩
      cases t with
      | con m =>
        obtain rfl := tr_con hv
        exact ⟨_, rfl, strI (int_small ok) (q _ fun _ _ e => e)⟩
      | var x =>
        obtain rfl := tr_var hv
        exact ⟨_, rfl, strS (q _ fun _ _ e => e)⟩
      | cho a1 b1 c1 e1 =>
        obtain ⟨p, v1, v2, v3, v4, rfl, sq, h1, h2, h3, h4⟩ := tr_cho hv
        refine ⟨_, rfl, p, rfl, ⟨_, sq⟩, fun D hD => ?_⟩
        refine lc_it (walk_tup (xs := [v1, v2, v3, v4])) (fun i H' => H' D = some (.lst (([a1, b1, c1, e1].take i).map fun t => V.str t.text)) ∧ Same H H') ⟨upd_same, sNew hD⟩ (fun _ _ _ ⟨_, sm⟩ => SqT.same sm sq) ?_ ?_
        · rintro i x H1 H1' hi ⟨hA, sm⟩ ⟨rfl, hx⟩
          obtain ⟨t, ht, hdt⟩ := get4 (K := K) (H := H) hx h1 h2 h3 h4
          refine ⟨rfl, _, rfl, x, t, rfl, tr_same sm hdt, kid_ok ht ok, by have := kid_deep ht; omega, by omega, fun H2 s2 => ?_⟩
          have hi' : i < 4 := hi
          refine ⟨_, s2 _ _ hA, ?_, ?_, sUpd hD (sm.trans s2)⟩
          · rw [List.length_map, List.length_take]
            exact Nat.lt_of_le_of_lt (Nat.min_le_left _ _) (Nat.lt_trans hi' (by decide))
          · rw [upd_same, List.take_succ, ht, List.map_append]
            rfl
        · rintro H1 ⟨hA, sm⟩
          refine ⟨D, _, rfl, .inl (.inl hA), rfl, _, _, rfl, _, _, rfl, _, _, rfl, _, _, rfl, rfl, ?_⟩
          obtain ⟨oa, ob, oc, oe⟩ : a1.Ok ∧ b1.Ok ∧ c1.Ok ∧ e1.Ok := ok
          have hdd : (Tr.cho a1 b1 c1 e1).deep = 1 + max (max a1.deep b1.deep) (max c1.deep e1.deep) := rfl
          have t1 := text_small oa (by omega)
          have t2 := text_small ob (by omega)
          have t3 := text_small oc (by omega)
          have t4 := text_small oe (by omega)
          have k0 : (Str.empty).length = 0 := rfl
          have k1 : ("(" : Str).length = 1 := by decide +kernel
          have k2 : ("=" : Str).length = 1 := by decide +kernel
          have k3 : ("?" : Str).length = 1 := by decide +kernel
          have k4 : (":" : Str).length = 1 := by decide +kernel
          have k5 : (")" : Str).length = 1 := by decide +kernel
          have sl := PySem.sizeLine_eq
          have L : ∀ z : Str, z.length ≤ 1000 → z.length ≤ sizeLine := fun z h => by omega
          refine ⟨_, rfl, L _ (by simp only [len_app]; omega), _, rfl, .inl ⟨_, rfl, L _ (by omega), _, rfl, L _ (by simp only [len_app]; omega), _, rfl, L _ (by simp only [len_app]; omega), ?_⟩⟩
          refine ⟨_, rfl, .inl ⟨_, rfl, L _ (by omega), _, rfl, L _ (by simp only [len_app]; omega), _, rfl, L _ (by simp only [len_app]; omega), ?_⟩⟩
          refine ⟨_, rfl, .inl ⟨_, rfl, L _ (by omega), _, rfl, L _ (by simp only [len_app]; omega), _, rfl, L _ (by simp only [len_app]; omega), ?_⟩⟩
          refine ⟨_, rfl, .inl ⟨_, rfl, L _ (by omega), _, rfl, L _ (by simp only [len_app]; omega), _, rfl, L _ (by simp only [len_app]; omega), ?_⟩⟩
          rw [join_text]
          exact q _ sm
end
end Z
set_option maxRecDepth 100000
set_option maxHeartbeats 4000000
namespace Z
open PySem PySem.Spec PyProof.Rows L2
theorem has_kids {p a b c e : Tr} : p.has (.cho a b c e) = (decide (p = .cho a b c e) || [a, b, c, e].any p.has) := by
  simp [Tr.has, List.any_cons]
theorem any_take {α : Type} {l : List α} {f : α → Bool} {i : Nat} {x : α} (h : l[i]? = some x) : (l.take (i + 1)).any f = ((l.take i).any f || f x) := by
  rw [List.take_succ, h, List.any_append]
  simp
section
variable {P : Program} {w : World} {K : PySem.W.Frag} {mg : Str → Option Value} {base : Heap} {a : Ad}
def spHas (K : PySem.W.Frag) (n : Nat) : Sp := fun vs H Q _ => ∃ (v x : V) (p t : Tr), vs = [v, x] ∧ Dp K H v p.d ∧ Dp K H x t.d ∧ p.Fine ∧ t.Fine ∧ t.deep ≤ n ∧ ∀ H', Same H H' → Q (.bl (p.has t)) H'
theorem ok_stands (T : Tx P K mg a) : ∀ n : Nat, FnOk P w K mg base CX0 (n + 1) a.f_stands_in a.d_stands_in ["plan", "whole"] (spHas K n)
  | 0 => fnNo fun vs H Q E ⟨v, x, p, t, _, _, _, _, _, h, _⟩ => by
    have := deep_pos t
    omega
  | n + 1 => by
    have IH : FnOk P w K mg base CX0 (n + 1) a.f_stands_in a.d_stands_in ["plan", "whole"] (spHas K n) := ok_stands T n
    refine T.stands_in.fn.ok sc_stands_in (fun vs H Q E h => ?_) (fun cdv A outer s H vs Q E hr h => ?_)
    · obtain ⟨v, x, p, t, rfl, _⟩ := h
      rfl
    · obtain ⟨v, x, p, t, rfl, hv, hx, fp, ft, hd, q⟩ := h
      have nd := sc_stands_in.nd
      refine ⟨_, (pss_cons (ps_if (pt_cmpR (op_eqX hr) (pv 0) (pv 1) (nomark _)) (pss_one (ps_ret pe_bl)) pss_nil)
        (pss_one (ps_ret (pe_and (cb_isi T.bi (pa_cons (pv 1) (pa_cons (gl_ty rfl T.bi.tuple PyProof.Rows.boot_tuple) pa_nil))) (pe_one (pe_cmpR (op_neX hr) (pe_lc (own := [("part", 2)]) (by rfl) nd (pi_tup (pv 1)) (blkOk_by (own := [("part", 2)]) (N := ["plan", "whole", "part"]) (sc := defScope s_stands_in) (by decide +kernel)) (fun _ _ _ _ _ => (pg_name (i := 2) nd rfl (Or.inl rfl))) (fun _ _ _ _ _ => pts_one (pt_val (pe_cf T.stands_in IH hr (pa_cons (pv 0) (pa_cons (pv 2) pa_nil))))) (fun _ _ _ _ _ => (pv 2))) (pe_lst pa_nil) (nomark _))))))), ?_⟩
      refine ⟨_, rfl, _, rfl, eqT hv hx fp ft ?_⟩
      refine ⟨_, rfl, ?_⟩
      by_cases e : p = t
      · rw [decide_eq_true e]
        have : p.has t = true := by
          subst e
          cases p <;> simp [Tr.has]
        rw [this] at q
        exact q _ fun _ _ e => e
      · rw [decide_eq_false e]
        refine ⟨_, rfl, isiTr hx ?_⟩
        cases t with
        | con m =>
          have : p.has (.con m) = false := by simp [Tr.has, e]
          rw [this] at q
          exact ⟨_, rfl, q _ fun _ _ e => e⟩
        | var x =>
          have : p.has (.var x) = false := by simp [Tr.has, e]
          rw [this] at q
          exact ⟨_, rfl, q _ fun _ _ e => e⟩
        | cho a1 b1 c1 e1 =>
          refine ⟨_, rfl, ?_⟩
          obtain ⟨y, v1, v2, v3, v4, rfl, sq, h1, h2, h3, h4⟩ := tr_cho hx
          rw [has_kids, decide_eq_false e, Bool.false_or] at q
          refine ⟨_, rfl, y, rfl, ⟨_, sq⟩, fun D hD => ?_⟩
          refine lc_it (walk_tup (xs := [v1, v2, v3, v4])) (fun i H' => ∃ acc : List V, H' D = some (.lst acc) ∧ Same H H' ∧ acc.length ≤ i ∧ (!acc.isEmpty) = ([a1, b1, c1, e1].take i).any p.has) ⟨[], upd_same, sNew hD, Nat.le_refl _, rfl⟩ (fun _ _ _ ⟨_, _, sm, _⟩ => SqT.same sm sq) ?_ ?_
          · rintro i x H1 H1' hi ⟨acc, hA, sm, ln, em⟩ ⟨rfl, hx⟩
            obtain ⟨t, ht, hdt⟩ := get4 (K := K) (H := H) hx h1 h2 h3 h4
            have hi' : i < 4 := hi
            have hk := kid_deep ht
            refine ⟨rfl, _, rfl, _, rfl, v, x, p, t, rfl, tr_same sm hv, tr_same sm hdt, fp, ⟨kid_ok ht ft.1, by have := ft.2; omega⟩, by omega, fun H2 s2 => ?_⟩
            refine ⟨_, rfl, ?_⟩
            cases hb : p.has t with
            | true =>
              refine ⟨_, rfl, acc, s2 _ _ hA, Nat.lt_of_le_of_lt ln (Nat.lt_trans hi' (by decide)), acc ++ [x], upd_same, sUpd hD (sm.trans s2), by rw [List.length_append]; exact Nat.succ_le_succ ln, ?_⟩
              rw [any_take ht, hb]
              simp
            | false =>
              refine ⟨acc, s2 _ _ hA, sm.trans s2, Nat.le_succ_of_le ln, ?_⟩
              rw [any_take ht, hb, em, Bool.or_false]
          · rintro H1 ⟨acc, hA, sm, ln, em⟩
            refine ⟨Nat.zero_le _, fun b hb => ?_⟩
            refine neL0 (.inl (.inl (by rw [upd_ne (ne_of_none hA hb)]; exact hA))) upd_same ?_
            rw [em]
            exact q _ (sm.trans (sNew hb))
def TermAt (K : PySem.W.Frag) (C : Addr) (H : Hp) (p : Addr) (t : Tr) : Prop := ∃ (dx : Addr) (u : V), H p = some (.ins C dx [("tree", u)]) ∧ Dp K H u t.d ∧ t.Fine
theorem TermAt.same {C : Addr} {H H' : Hp} {p : Addr} {t : Tr} (e : Same H H') (h : TermAt K C H p t) : TermAt K C H' p t := by
  obtain ⟨dx, u, h1, h2, h3⟩ := h
  exact ⟨dx, u, e _ _ h1, tr_same e h2, h3⟩
inductive PO (K : PySem.W.Frag) (C : Addr) (H : Hp) : V → Option Tr → Prop
  | str (z : Str) (h : z.length ≤ sizeLine) : PO K C H (.str z) (planOf z)
  | own {p : Addr} {t : Tr} (h : TermAt K C H p t) : PO K C H (.ref p) (some t)
  | int (n : Int) : PO K C H (.int n) (if 0 ≤ n ∧ n ≤ 9 then some (.con n) else none)
  | oth {x : V} {ty : String} {r1 r2 : Bool} (h : TyX K H x (.type ty)) (k1 : kitB ty "int" = some r1) (k2 : kitB ty "bool" = some r2) (e : (r1 && !r2) = false) (k3 : kitB ty "str" = some false) (k4 : PySem.W.kitOne K (.type ty) (.ref C) = some false) : PO K C H x none
def GotT (K : PySem.W.Frag) (H : Hp) (v : V) : Option Tr → Prop
  | none => v = .non
  | some t => Dp K H v t.d
def spPlanOf (K : PySem.W.Frag) (C : Addr) : Sp := fun vs H Q _ => ∃ (x : V) (r : Option Tr), vs = [x] ∧ PO K C H x r ∧ ∀ v H', Same H H' → GotT K H' v r → Q v H'
theorem tyTerm (T : Tx P K mg a) {H : Hp} {p dx : Addr} {fs : List (Str × V)} (h : H p = some (.ins a.C_Term dx fs)) : TyX K H (.ref p) (.ref a.C_Term) := .base (.ins h T.c_Term T.ty_Term T.tn T.tt T.mo_Term)
theorem ok_plan_of (T : Tx P K mg a) : FnOk P w K mg base CX0 6 a.f_plan_of a.d_plan_of ["value"] (spPlanOf K a.C_Term) := by
  have F1 : FnOk P w K mg base CX0 2 a.f_is_number a.d_is_number ["value", "low", "high"] (spNumber K) := ok_number T
  have F2 : FnOk P w K mg base CX0 4 a.f_plan_at a.d_plan_at ["text", "at", "deep"] (spPlanAt K 3) := ok_plan_at T 3
  refine T.plan_of.fn.ok sc_plan_of (fun vs H Q E h => ?_) (fun cdv A outer s H vs Q E hr h => ?_)
  · obtain ⟨x, r, rfl, _⟩ := h
    rfl
  · obtain ⟨x, r, rfl, hp, q⟩ := h
    have nd := sc_plan_of.nd
    refine ⟨_, (pss_cons (ps_if (pt_val (cb_isi T.bi (pa_cons (pv 0) (pa_cons (pe_gr T.g_Term) pa_nil)))) (pss_one (ps_ret (pe_fld (pv 0) rfl))) pss_nil)
      (pss_cons (ps_if (pt_val (pe_cf T.is_number F1 (hr.mono (by decide)) (pa_cons (pv 0) (pa_cons pe_int (pa_cons (pe_gi T.v_MOST_CONSTANT) pa_nil))))) (pss_one (ps_ret (pv 0))) pss_nil)
      (pss_cons (ps_if (pt_not (pt_val (cb_isi T.bi (pa_cons (pv 0) (pa_cons (gl_ty rfl T.bi.str PyProof.Rows.boot_str) pa_nil))))) (pss_one (ps_ret pe_non)) pss_nil)
      (pss_cons (ps_set (i := 1) nd rfl (Or.inl rfl) (pe_cf T.plan_at F2 (hr.mono (by decide)) (pa_cons (pv 0) (pa_cons pe_int (pa_cons (pe_gi T.v_MOST_DEPTH) pa_nil)))))
      (pss_cons (ps_if (PW.pt (pw_or (pt_cmp (pc_isN (pv 1))) (pw_or1 (pt_cmpR (op_neX hr) (pe_ix ix_A (pv 1) pe_int (fun _ _ => rfl)) (cb_len T.bi (pa_cons (pv 0) pa_nil)) (nomark _))))) (pss_one (ps_ret pe_non)) pss_nil)
      (pss_one (ps_ret (pe_ix ix_A (pv 1) pe_int (fun _ _ => rfl))))))))), ?_⟩
    have rf : Same H H := fun _ _ e => e
    cases hp with
    | own h =>
      rename_i p t
      obtain ⟨dx, u, h1, h2, h3⟩ := h
      refine ⟨_, rfl, isiOwn (tyTerm T h1) T.kit_Term ?_⟩
      refine ⟨_, rfl, ?_⟩
      exact ⟨_, rfl, p, a.C_Term, dx, _, u, rfl, h1, T.c_Term, T.no_Term_tree, rfl, q _ _ rf h2⟩
    | int n =>
      refine ⟨_, rfl, isiOwn (.base (.int n)) T.kit_Term_int ?_⟩
      refine ⟨_, rfl, ?_⟩
      refine ⟨_, rfl, _, 0, 9, rfl, .inl ⟨n, rfl, ?_⟩⟩
      refine ⟨_, rfl, ?_⟩
      by_cases h : 0 ≤ n ∧ n ≤ 9
      · rw [decide_eq_true h.1, decide_eq_true h.2]
        rw [if_pos h] at q
        exact ⟨_, rfl, q _ _ rf (.int n)⟩
      · rw [if_neg h] at q
        have : (decide (0 ≤ n) && decide (n ≤ 9)) = false := by
          rw [← Bool.decide_and]
          exact decide_eq_false h
        rw [this]
        refine ⟨_, rfl, isiTy (.base (.int n)) (by decide +kernel : kitB "int" "str" = some false) ?_⟩
        exact ⟨_, rfl, q _ _ rf rfl⟩
    | oth h k1 k2 e k3 k4 =>
      refine ⟨_, rfl, isiOwn h k4 ?_⟩
      refine ⟨_, rfl, ?_⟩
      refine ⟨_, rfl, _, 0, 9, rfl, .inr ⟨_, _, _, h, k1, k2, e, ?_⟩⟩
      refine ⟨_, rfl, ?_⟩
      refine ⟨_, rfl, isiTy h k3 ?_⟩
      exact ⟨_, rfl, q _ _ rf rfl⟩
    | str z hz =>
      refine ⟨_, rfl, isiOwn (.base (.str z)) T.kit_Term_str ?_⟩
      refine ⟨_, rfl, ?_⟩
      refine ⟨_, rfl, _, 0, 9, rfl, .inr ⟨"str", false, false, .base (.str z), k_si, by decide +kernel, rfl, ?_⟩⟩
      refine ⟨_, rfl, ?_⟩
      refine ⟨_, rfl, isiTy (.base (.str z)) k_ss ?_⟩
      refine ⟨_, rfl, ?_⟩
      refine ⟨_, rfl, z, 0, rfl, Nat.zero_le _, hz, by decide, fun v H1 s1 got => ?_⟩
      rw [List.drop_zero] at got
      unfold planOf at q
      refine ⟨_, rfl, ?_⟩
      cases hf : pl 3 (ls z) with
      | none =>
        rw [hf] at got q
        obtain rfl : v = .non := got
        refine ⟨_, rfl, ?_⟩
        exact q _ _ s1 rfl
      | some tr =>
        obtain ⟨t, r⟩ := tr
        rw [hf] at got q
        obtain ⟨pf, j, u, rfl, hj, hr', hpf, hu⟩ := got
        refine ⟨_, rfl, ?_⟩
        refine ⟨_, rfl, ixT (i := 1) (.inl (.inl hpf)) rfl ?_⟩
        refine ⟨_, rfl, lenS hz ?_⟩
        refine neI ?_
        refine ⟨_, rfl, ?_⟩
        by_cases hl : j = z.length
        · rw [decide_eq_true (show (j : Int) = (z.length : Int) by omega)]
          have : r = [] := by rw [← hr']; exact List.drop_eq_nil_of_le (by rw [ls_len]; omega)
          subst this
          exact ⟨_, rfl, ixT (i := 0) (.inl (.inl hpf)) rfl (q _ _ s1 hu)⟩
        · rw [decide_eq_false (show ¬ (j : Int) = (z.length : Int) by omega)]
          cases r with
          | nil =>
            have := congrArg List.length hr'
            rw [List.length_drop, ls_len] at this
            simp at this
            omega
          | cons c r => exact q _ _ s1 rfl
end
end Z
set_option maxRecDepth 100000
set_option maxHeartbeats 4000000
namespace Z
open PySem PySem.Spec PyProof.Rows L2
section
variable {P : Program} {w : World} {K : PySem.W.Frag} {mg : Str → Option Value} {base : Heap} {a : Ad}
theorem plp_fine {d : Nat} {f : List Nat → Option (Tr × List Nat)} (hf : ∀ l t r, f l = some (t, r) → t.Ok ∧ t.deep ≤ d) : ∀ {ss l ts z}, plp f ss l = some (ts, z) → ∀ t ∈ ts, t.Ok ∧ t.deep ≤ d
  | [], l, ts, z, h => by
    simp [plp] at h
    obtain ⟨rfl, _⟩ := h
    intro t ht
    cases ht
  | s :: ss, l, ts, z, h => by
    unfold plp at h
    split at h
    · rename_i t c q e
      split at h
      · split at h
        · rename_i us y e2
          cases h
          intro t' ht
          rcases List.mem_cons.mp ht with rfl | ht
          · exact hf _ _ _ e
          · exact plp_fine hf e2 t' ht
        · cases h
      · cases h
    · cases h
theorem pl_fine : ∀ (d : Nat) (l : List Nat) (t : Tr) (r : List Nat), pl d l = some (t, r) → t.Ok ∧ t.deep ≤ d
  | 0, l, t, r, h => by cases h
  | d + 1, [], t, r, h => by cases h
  | d + 1, c :: q, t, r, h => by
    unfold pl at h
    split at h
    · rename_i hc
      cases h
      unfold isDB at hc
      simp at hc
      exact ⟨⟨by omega, by omega⟩, Nat.le_add_left 1 d⟩
    · split at h
      · rename_i hw
        cases h
        have := wordB_iff (w := tx ((c :: q).takeWhile isLB))
        rw [ls_tx] at this
        exact ⟨this.mp hw, Nat.le_add_left 1 d⟩
      · split at h
        · cases h
        · unfold plx at h
          split at h
          · rename_i a b c e z e2
            cases h
            have hh := plp_fine (fun l t r => pl_fine d l t r) e2
            have ha := hh a (by simp)
            have hb := hh b (by simp)
            have hc := hh c (by simp)
            have he := hh e (by simp)
            refine ⟨⟨ha.1, hb.1, hc.1, he.1⟩, ?_⟩
            show 1 + max (max a.deep b.deep) (max c.deep e.deep) ≤ d + 1
            omega
          · cases h
theorem planOf_fine {z : Str} {t : Tr} (h : planOf z = some t) : t.Ok ∧ t.deep ≤ 3 := by
  unfold planOf at h
  split at h
  · rename_i u e
    cases h
    exact pl_fine 3 _ _ _ e
  · cases h
theorem po_fine {K : PySem.W.Frag} {C : Addr} {H : Hp} {x : V} {t : Tr} (h : PO K C H x (some t)) : t.Fine := by
  generalize hr : some t = r at h
  cases h with
  | str z hz =>
    have := planOf_fine hr.symm
    exact ⟨this.1, by omega⟩
  | own h =>
    cases hr
    obtain ⟨_, _, _, _, f⟩ := h
    exact f
  | int n =>
    split at hr
    · rename_i hn
      cases hr
      exact ⟨hn, show 1 ≤ 60 by decide⟩
    · cases hr
  | oth => cases hr
theorem TK.ins {H : Hp} {p C dx : Addr} {fs : List (Str × V)} {o : HO} (h : H p = some (.ins C dx fs)) : TK H (upd H p o) :=
  ⟨fun b ys e => by rw [upd_ne (ne_of e h (by intro z; cases z))]; exact e, fun b o u e => by rw [upd_ne (ne_of e h (by intro z; cases z))]; exact e⟩
def spInit (K : PySem.W.Frag) (C X : Addr) : Sp := fun vs H Q E => ∃ (p dx : Addr) (x : V) (r : Option Tr), vs = [.ref p, x] ∧ H p = some (.ins C dx []) ∧ PO K C H x r ∧
  (∀ t v H', r = some t → But p H H' → H' p = some (.ins C dx [("tree", v)]) → Dp K H' v t.d → Q .non H') ∧ (r = none → ∀ d H1, Same H H1 → H1 d = none → E (.ref X) (some d) (upd H1 d (.xd [("value", x)])))
theorem ok_init (T : Tx P K mg a) : FnOk P w K mg base (L2.CX P w) 7 a.f_Term___init__ a.d_Term___init__ ["self", "value"] (spInit K a.C_Term a.C_NoTerm) := by
  have F1 : FnOk P w K mg base CX0 6 a.f_plan_of a.d_plan_of ["value"] (spPlanOf K a.C_Term) := ok_plan_of T
  refine T.Term___init__.okX sc_Term___init__ (fun vs H Q E h => ?_) (fun cdv A outer s H vs Q E hr h => ?_)
  · obtain ⟨p, dx, x, r, rfl, _⟩ := h
    rfl
  · obtain ⟨p, dx, x, r, rfl, hp, po, q1, q2⟩ := h
    have nd := sc_Term___init__.nd
    refine ⟨_, (pss_cons (ps_set (i := 2) nd rfl (Or.inl rfl) (pe_cf T.plan_of F1 hr (pa_cons (pv 1) pa_nil)))
      (pss_cons (ps_if (pt_cmp (pc_isN (pv 2))) (pss_one (ps_raiseT (takes_of rfl rfl rfl rfl) T.e_NoTerm hr (pa_cons (pv 1) pa_nil))) pss_nil)
      (pss_one (ps_fld (pv 0) (pv 2) rfl)))), ?_⟩
    refine ⟨_, rfl, _, r, rfl, po, fun v H1 s1 got => ?_⟩
    refine ⟨_, rfl, ?_⟩
    cases r with
    | none =>
      obtain rfl : v = .non := got
      refine ⟨_, rfl, ?_⟩
      exact ⟨_, rfl, x, rfl, fun d hd => q2 rfl d H1 s1 hd⟩
    | some t =>
      have nv : decide (v = V.non) = false := by
        refine decide_eq_false ?_
        rintro rfl
        cases t <;> (unfold GotT Tr.d at got; cases got)
      refine ⟨_, rfl, ?_⟩
      rw [nv]
      have hp1 := s1 _ _ hp
      refine ⟨_, rfl, _, rfl, p, a.C_Term, dx, [], rfl, hp1, T.c_Term, T.no_Term_tree, (by decide), ?_⟩
      refine q1 t v _ rfl (fun b o hb e => by rw [upd_ne hb]; exact s1 b o e) upd_same ?_
      exact tr_tk (TK.ins hp1) t got
def spWithin (K : PySem.W.Frag) (C X : Addr) : Sp := fun vs H Q E => ∃ (p : Addr) (x : V) (s : Tr), vs = [.ref p, x] ∧ TermAt K C H p s ∧
  ((∃ q t, x = .ref q ∧ TermAt K C H q t ∧ t.deep ≤ 9 ∧ ∀ H', Same H H' → Q (.bl (s.has t)) H') ∨ (∃ ty, TyX K H x (.type ty) ∧ PySem.W.kitOne K (.type ty) (.ref C) = some false ∧ ∀ d, H d = none → E (.ref X) (some d) (upd H d (.xd [("value", x)]))))
theorem ok_within (T : Tx P K mg a) : FnOk P w K mg base (L2.CX P w) 11 a.f_Term_within a.d_Term_within ["self", "other"] (spWithin K a.C_Term a.C_NoTerm) := by
  have F1 : FnOk P w K mg base CX0 10 a.f_stands_in a.d_stands_in ["plan", "whole"] (spHas K 9) := ok_stands T 9
  refine T.Term_within.okX sc_Term_within (fun vs H Q E h => ?_) (fun cdv A outer s H vs Q E hr h => ?_)
  · obtain ⟨p, x, s, rfl, _⟩ := h
    rfl
  · obtain ⟨p, x, s, rfl, hp, h⟩ := h
    have nd := sc_Term_within.nd
    refine ⟨_, (pss_cons (ps_if (pt_not (pt_val (cb_isi T.bi (pa_cons (pv 1) (pa_cons (pe_gr T.g_Term) pa_nil))))) (pss_one (ps_raiseT (takes_of rfl rfl rfl rfl) T.e_NoTerm hr (pa_cons (pv 1) pa_nil))) pss_nil)
      (pss_one (ps_ret (pe_cf T.stands_in F1 hr (pa_cons (pe_fld (pv 0) rfl) (pa_cons (pe_fld (pv 1) rfl) pa_nil)))))), ?_⟩
    obtain ⟨dx, u, h1, h2, h3⟩ := hp
    rcases h with ⟨q, t, rfl, ⟨dy, v, g1, g2, g3⟩, hd, k⟩ | ⟨ty, ht, hk, k⟩
    · refine ⟨_, rfl, isiOwn (tyTerm T g1) T.kit_Term ?_⟩
      refine ⟨_, rfl, ?_⟩
      refine ⟨_, rfl, p, _, dx, _, u, rfl, h1, T.c_Term, T.no_Term_tree, rfl, ?_⟩
      refine ⟨_, rfl, q, _, dy, _, v, rfl, g1, T.c_Term, T.no_Term_tree, rfl, ?_⟩
      exact ⟨u, v, s, t, rfl, h2, g2, h3, g3, hd, k⟩
    · refine ⟨_, rfl, isiOwn ht hk ?_⟩
      refine ⟨_, rfl, ?_⟩
      exact ⟨_, rfl, x, rfl, fun d hd => k d hd⟩
def spEqT (K : PySem.W.Frag) (C : Addr) : Sp := fun vs H Q _ => ∃ (p q : Addr) (s t : Tr), vs = [.ref p, .ref q] ∧ TermAt K C H p s ∧ TermAt K C H q t ∧ Q (.bl (decide (s = t))) H
theorem ok_eq (T : Tx P K mg a) : FnOk P w K mg base CX0 1 a.f_Term___eq__ a.d_Term___eq__ ["self", "other"] (spEqT K a.C_Term) := by
  refine T.Term___eq__.ok sc_Term___eq__ (fun vs H Q E h => ?_) (fun cdv A outer s H vs Q E hr h => ?_)
  · obtain ⟨p, x, s, t, rfl, _⟩ := h
    rfl
  · obtain ⟨p, q, s, t, rfl, ⟨dx, u, h1, h2, h3⟩, ⟨dy, v, g1, g2, g3⟩, k⟩ := h
    refine ⟨_, (pss_one (ps_ret (pe_and (cb_isi T.bi (pa_cons (pv 1) (pa_cons (pe_gr T.g_Term) pa_nil))) (pe_one (pe_cmpR (op_eqX hr) (pe_fld (pv 0) rfl) (pe_fld (pv 1) rfl) (nomark _)))))), ?_⟩
    refine ⟨_, rfl, isiOwn (tyTerm T g1) T.kit_Term ?_⟩
    refine ⟨_, rfl, ?_⟩
    refine ⟨_, rfl, p, _, dx, _, u, rfl, h1, T.c_Term, T.no_Term_tree, rfl, ?_⟩
    refine ⟨_, rfl, q, _, dy, _, v, rfl, g1, T.c_Term, T.no_Term_tree, rfl, ?_⟩
    exact eqT h2 g2 h3 g3 k
theorem make_term {H : Hp} {t : Tr} {C X : Addr} {R : VK} {x dx : Addr} (ok : t.Ok) (hd : t.deep ≤ 3) (hx : H x = none) (hdx : H dx = none) (ne : dx ≠ x) (q : ∀ H', Same H H' → TermAt K C H' x t → R .non H') :
    spInit K C X [.ref x, .str t.text] (upd (upd H dx (.own x)) x (.ins C dx [])) R E0 := by
  have hz : t.text.length ≤ sizeLine := Nat.le_trans (text_small ok hd) (by decide)
  refine ⟨x, dx, _, _, rfl, upd_same, .str _ hz, fun t' v H' e b h1 h2 => ?_, fun e => ?_⟩
  · rw [plan_text ok hd] at e
    cases e
    refine q H' (fun c o hc => b c o (ne_of_none hc hx) ?_) ⟨dx, v, h1, h2, ok, by omega⟩
    rw [upd_ne (ne_of_none hc hx), upd_ne (ne_of_none hc hdx)]
    exact hc
  · rw [plan_text ok hd] at e
    cases e
def spParts (K : PySem.W.Frag) (C : Addr) : Sp := fun vs H Q _ => ∃ (p : Addr) (t : Tr), vs = [.ref p] ∧ TermAt K C H p t ∧ t.deep ≤ 3 ∧
  ∀ l (ps : List Addr) H', Same H H' → H' l = some (.lst (ps.map V.ref)) → ps.length = t.kids.length → (∀ (i : Nat) (q : Addr) (k : Tr), ps[i]? = some q → t.kids[i]? = some k → TermAt K C H' q k) → Q (.ref l) H'
theorem ok_parts (T : Tx P K mg a) : FnOk P w K mg base CX0 9 a.f_Term_parts a.d_Term_parts ["self"] (spParts K a.C_Term) := by
  have F1 : FnOk P w K mg base CX0 4 a.f_text_of a.d_text_of ["plan"] (spText K 3) := ok_text T 3
  have F2 : FnOk P w K mg base (L2.CX P w) 7 a.f_Term___init__ a.d_Term___init__ ["self", "value"] (spInit K a.C_Term a.C_NoTerm) := ok_init T
  refine T.Term_parts.ok sc_Term_parts (fun vs H Q E h => ?_) (fun cdv A outer s H vs Q E hr h => ?_)
  · obtain ⟨p, t, rfl, _⟩ := h
    rfl
  · obtain ⟨p, t, rfl, ⟨dx, u, h1, h2, h3⟩, hd, k⟩ := h
    have nd := sc_Term_parts.nd
    refine ⟨_, (pss_cons (ps_if (pt_not (pt_val (cb_isi T.bi (pa_cons (pe_fld (pv 0) rfl) (pa_cons (gl_ty rfl T.bi.tuple PyProof.Rows.boot_tuple) pa_nil))))) (pss_one (ps_ret (pe_lst pa_nil))) pss_nil)
      (pss_one (ps_ret (pe_lc (own := [("part", 1)]) (by rfl) nd (pi_tup (pe_fld (pv 0) rfl)) (blkOk_by (own := [("part", 1)]) (N := ["self", "part"]) (sc := defScope s_Term_parts) (by decide +kernel)) (fun _ _ _ _ _ => (pg_name (i := 1) nd rfl (Or.inl rfl))) (fun _ _ _ _ _ => pts_nil)
        (fun _ _ _ _ _ => (pe_make T.mk_Term F2 hr rfl T.g_Term T.b_Term___init__ .nil passL (pa_cons (pe_cf T.text_of F1 (hr.mono (by decide)) (pa_cons (pv 1) pa_nil)) pa_nil))))))), ?_⟩
    refine ⟨_, rfl, p, _, dx, _, u, rfl, h1, T.c_Term, T.no_Term_tree, rfl, isiTr h2 ?_⟩
    refine ⟨_, rfl, ?_⟩
    cases t with
    | con m => exact ⟨Nat.zero_le _, fun l hl => k l [] _ (sNew hl) upd_same rfl fun i q k h _ => by simp at h⟩
    | var m => exact ⟨Nat.zero_le _, fun l hl => k l [] _ (sNew hl) upd_same rfl fun i q k h _ => by simp at h⟩
    | cho a1 b1 c1 e1 =>
      obtain ⟨y, v1, v2, v3, v4, rfl, sq, g1, g2, g3, g4⟩ := tr_cho h2
      refine ⟨_, rfl, p, _, dx, _, _, rfl, h1, T.c_Term, T.no_Term_tree, rfl, y, rfl, ⟨_, sq⟩, fun D hD => ?_⟩
      refine lc_it (walk_tup (xs := [v1, v2, v3, v4])) (fun i H' => ∃ ps : List Addr, H' D = some (.lst (ps.map V.ref)) ∧ Same H H' ∧ ps.length = i ∧ (∀ (j : Nat) (q : Addr) (k : Tr), ps[j]? = some q → [a1, b1, c1, e1][j]? = some k → TermAt K a.C_Term H' q k))
        ⟨[], upd_same, sNew hD, rfl, fun j q k h _ => by simp at h⟩ (fun _ _ _ ⟨_, _, sm, _⟩ => SqT.same sm sq) ?_ ?_
      · rintro i x H1 H1' hi ⟨ps, hA, sm, ln, al⟩ ⟨rfl, hx⟩
        obtain ⟨t, ht, hdt⟩ := get4 (K := K) (H := H) hx g1 g2 g3 g4
        have hk := kid_deep ht
        have ok := kid_ok ht h3.1
        have hi' : i < 4 := hi
        refine ⟨rfl, _, rfl, x, t, rfl, tr_same sm hdt, ok, by omega, by decide, fun H2 s2 => ?_⟩
        intro x2 dx2 n1 n2 ne
        refine make_term ok (by omega) n1 n2 ne fun H3 s3 tq => ⟨rfl, ?_⟩
        have sA : Same H1' H3 := s2.trans s3
        refine ⟨_, sA _ _ hA, by rw [List.length_map, ln]; exact Nat.lt_trans hi' (by decide), ps ++ [x2], by rw [upd_same, List.map_append]; rfl, sUpd hD (sm.trans sA), by rw [List.length_append, ln]; rfl, ?_⟩
        have up : ∀ {q' : Addr} {t' : Tr}, TermAt K a.C_Term H3 q' t' → TermAt K a.C_Term (upd H3 D (.lst (ps.map V.ref ++ [V.ref x2]))) q' t' := fun {q' t'} h => by
          obtain ⟨dz, uz, z1, z2, z3⟩ := h
          have hDl := sA _ _ hA
          exact ⟨dz, uz, by rw [upd_ne (ne_of z1 hDl (by intro z; cases z))]; exact z1, tr_tk (TK.lst hDl) t' z2, z3⟩
        intro j q' k' hj hk'
        by_cases hjl : j < ps.length
        · rw [List.getElem?_append_left hjl] at hj
          exact up ((al j q' k' hj hk').same sA)
        · have : j = ps.length := by
            have := (List.getElem?_eq_some_iff.mp hj).1
            rw [List.length_append, List.length_singleton] at this
            omega
          subst this
          rw [List.getElem?_append_right (Nat.le_refl _), Nat.sub_self] at hj
          cases hj
          rw [ln, ht] at hk'
          cases hk'
          exact up tq
      · rintro H1 ⟨ps, hA, sm, ln, al⟩
        exact k D ps H1 sm hA ln al
end
end Z
set_option maxRecDepth 100000
set_option maxHeartbeats 4000000
namespace Z
open PySem PySem.Spec PyProof.Rows L2
section
variable {P : Program} {w : World} {K : PySem.W.Frag} {mg : Str → Option Value} {base : Heap} {a : Ad}
theorem get4T {p1 p2 p3 p4 : Addr} {x : V} {t1 t2 t3 t4 : Tr} {i : Nat} {C : Addr} {H : Hp} (h : [V.ref p1, V.ref p2, V.ref p3, V.ref p4][i]? = some x) (h1 : TermAt K C H p1 t1) (h2 : TermAt K C H p2 t2) (h3 : TermAt K C H p3 t3) (h4 : TermAt K C H p4 t4) : ∃ q t, x = .ref q ∧ [t1, t2, t3, t4][i]? = some t ∧ TermAt K C H q t := by
  match i, h with
  | 0, h => exact ⟨p1, t1, by cases h; rfl, rfl, h1⟩
  | 1, h => exact ⟨p2, t2, by cases h; rfl, rfl, h2⟩
  | 2, h => exact ⟨p3, t3, by cases h; rfl, rfl, h3⟩
  | 3, h => exact ⟨p4, t4, by cases h; rfl, rfl, h4⟩
theorem none_tr {H : Hp} {v : V} {t : Tr} (h : Dp K H v t.d) : decide (v = V.non) = false := by
  refine decide_eq_false ?_
  rintro rfl
  cases t <;> (unfold Tr.d at h; cases h)
def spChoice (K : PySem.W.Frag) (C : Addr) : Sp := fun vs H Q _ => ∃ (p1 p2 p3 p4 : Addr) (t1 t2 t3 t4 : Tr), vs = [.ref p1, .ref p2, .ref p3, .ref p4] ∧ TermAt K C H p1 t1 ∧ TermAt K C H p2 t2 ∧ TermAt K C H p3 t3 ∧ TermAt K C H p4 t4 ∧ (Tr.cho t1 t2 t3 t4).deep ≤ 3 ∧
  ∀ q H', Same H H' → TermAt K C H' q (.cho t1 t2 t3 t4) → Q (.ref q) H'
theorem ok_choice (T : Tx P K mg a) : FnOk P w K mg base (L2.CX P w) 9 a.f_Term_choice a.d_Term_choice ["one", "other", "same", "unlike"] (spChoice K a.C_Term) := by
  have F0 : FnOk P w K mg base CX0 6 a.f_plan_of a.d_plan_of ["value"] (spPlanOf K a.C_Term) := ok_plan_of T
  have F1 : FnOk P w K mg base CX0 4 a.f_text_of a.d_text_of ["plan"] (spText K 3) := ok_text T 3
  have F2 : FnOk P w K mg base (L2.CX P w) 7 a.f_Term___init__ a.d_Term___init__ ["self", "value"] (spInit K a.C_Term a.C_NoTerm) := ok_init T
  refine T.Term_choice.okX sc_Term_choice (fun vs H Q E h => ?_) (fun cdv A outer s H vs Q E hr h => ?_)
  · obtain ⟨p1, p2, p3, p4, t1, t2, t3, t4, rfl, _⟩ := h
    rfl
  · obtain ⟨p1, p2, p3, p4, t1, t2, t3, t4, rfl, h1, h2, h3, h4, hd, k⟩ := h
    have nd := sc_Term_choice.nd
    refine ⟨_, (pss_cons (ps_set (i := 4) nd rfl (Or.inl rfl) (pe_lst pa_nil))
      (pss_cons (ps_for (passes_of rfl) rfl (pi_tup (pe_tup (pa_cons (pv 0) (pa_cons (pv 1) (pa_cons (pv 2) (pa_cons (pv 3) pa_nil)))))) (pg_name (i := 5) nd rfl (Or.inl rfl))
        (pss_cons (ps_set (i := 6) nd rfl (Or.inl rfl) (pe_cf T.plan_of F0 (hr.mono (by decide)) (pa_cons (pv 5) pa_nil)))
        (pss_cons (ps_if (pt_cmp (pc_isN (pv 6))) (pss_one ps_no) pss_nil)
        (pss_one (ps_expr (pe_bm PySem.F.plainAttrs_list PySem.F.slot_list_append PySem.F.type_list_append mt_append (pv 4) (pa_cons (pv 6) pa_nil)))))))
      (pss_one (ps_ret (pe_make T.mk_Term F2 hr rfl T.g_Term T.b_Term___init__ .nil passL (pa_cons (pe_cf T.text_of F1 (hr.mono (by decide)) (pa_cons (cb_tuple T.bi (pa_cons (pv 4) pa_nil)) pa_nil)) pa_nil)))))), ?_⟩
    refine ⟨Nat.zero_le _, fun l hl => ?_⟩
    refine ⟨_, rfl, _, rfl, _, rfl, _, rfl, by show 4 ≤ sizeLine; decide, fun p0 hp0 => ?_⟩
    have s1 : Same H (upd (upd H l (.lst [])) p0 (.tup [V.ref p1, .ref p2, .ref p3, .ref p4])) := (sNew hl).trans (sNew hp0)
    have n0 : l ≠ p0 := ne_of_none (H := upd H l (.lst [])) upd_same hp0
    refine ⟨p0, rfl, ⟨_, .inl (.inl upd_same)⟩, ?_⟩
    refine for_it (walk_tup (xs := [V.ref p1, .ref p2, .ref p3, .ref p4])) (fun n σ H' => ∃ (us : List V) (o5 o6 : Option V), σ = [some (.ref p1), some (.ref p2), some (.ref p3), some (.ref p4), some (.ref l), o5, o6] ∧ H' l = some (.lst us) ∧
        DpAll K H' us (([t1, t2, t3, t4].take n).map Tr.d) ∧ us.length = n ∧ Same H H' ∧ H' p0 = some (.tup [V.ref p1, .ref p2, .ref p3, .ref p4]))
      ⟨[], none, none, rfl, by rw [upd_ne n0, upd_same], .nil, rfl, s1, upd_same⟩ (fun n σ H' _ ⟨_, _, _, _, _, _, _, _, hp⟩ => .inl (.inl hp)) ?_ ?_
    · rintro n x σ H2 H2' hn ⟨us, o5, o6, rfl, hL, hD, ln, sm, hP⟩ ⟨rfl, hx⟩
      obtain ⟨q, t, rfl, ht, tq⟩ := get4T (K := K) (C := a.C_Term) hx h1 h2 h3 h4
      refine ⟨_, rfl, _, _, rfl, .own (tq.same sm), fun v H3 s3 got => ?_⟩
      have got' : Dp K H3 v t.d := got
      refine ⟨_, rfl, ?_⟩
      refine ⟨_, rfl, ?_⟩
      rw [none_tr got']
      have hL3 := s3 _ _ hL
      have hn' : n < 4 := hn
      refine ⟨_, rfl, .inl ⟨rfl, us, .inl (.inl hL3)⟩, _, rfl, l, us, v, rfl, rfl, hL3, by rw [ln]; exact Nat.lt_trans hn' (by decide), ?_⟩
      have tkk : TK H3 (upd H3 l (.lst (us ++ [v]))) := TK.lst hL3
      refine ⟨us ++ [v], _, _, rfl, upd_same, ?_, by rw [List.length_append, ln]; rfl, sUpd hl (sm.trans s3), by rw [upd_ne n0.symm]; exact s3 _ _ hP⟩
      rw [List.take_succ, ht]
      exact dpAll_tk (ts := [t1, t2, t3, t4].take n ++ [t]) tkk (by rw [List.map_append]; exact DpAll.app (dpAll_same s3 hD) (.cons got' .nil))
    · rintro σ H2 ⟨us, o5, o6, rfl, hL, hD, ln, sm, hP⟩
      refine ⟨_, rfl, tupL (.inl (.inl hL)) fun p5 H3 n5 s3 hp5 => ?_⟩
      have f1 : t1.Fine := by obtain ⟨_, _, _, _, f⟩ := h1; exact f
      have f2 : t2.Fine := by obtain ⟨_, _, _, _, f⟩ := h2; exact f
      have f3 : t3.Fine := by obtain ⟨_, _, _, _, f⟩ := h3; exact f
      have f4 : t4.Fine := by obtain ⟨_, _, _, _, f⟩ := h4; exact f
      have ok : (Tr.cho t1 t2 t3 t4).Ok := ⟨f1.1, f2.1, f3.1, f4.1⟩
      have hD' : DpAll K H3 us [t1.d, t2.d, t3.d, t4.d] := dpAll_same s3 hD
      have dp : Dp K H3 (.ref p5) (Tr.cho t1 t2 t3 t4).d := .tup (.inl (.inl hp5)) hD'
      refine ⟨_, _, rfl, dp, ok, hd, by decide, fun H4 s4 => ?_⟩
      intro x dx n1 n2 ne
      refine make_term ok hd n1 n2 ne fun H5 s5 tq => ⟨rfl, ?_⟩
      exact k _ _ (((sm.trans s3).trans s4).trans s5) tq
end
end Z
set_option maxRecDepth 100000
set_option maxHeartbeats 4000000
namespace Z
open PySem PySem.Spec PyProof.Rows L2
theorem b01 (b : Bool) : (if b = true then (1 : Int) else 0).natAbs < 2 ^ 1 := by cases b <;> decide
theorem bits_lt {n : Int} {N : Nat} (h : Builtin.Int.intBits n ≤ N) : n.natAbs < 2 ^ N := by
  by_cases h0 : n = 0
  · subst h0
    exact Nat.two_pow_pos N
  · have e : Builtin.Int.intBits n = n.natAbs.log2 + 1 := by
      unfold Builtin.Int.intBits
      rw [if_neg (by simpa using h0)]
    rw [e] at h
    exact Nat.lt_of_lt_of_le Nat.lt_log2_self (Nat.pow_le_pow_right (by decide) h)
section
variable {P : Program} {w : World} {K : PySem.W.Frag} {mg : Str → Option Value} {base : Heap} {a : Ad}
def PoolAt (H : Hp) (l : Addr) : Prop := ∃ p q : Int, H l = some (.lst [.int p, .int q]) ∧ 0 ≤ q ∧ q < 2147483647
def spPool (K : PySem.W.Frag) : Sp := fun vs H Q _ => ∃ (s : Addr) (ns : List Int) (k : Nat), vs = [.ref s, .int (k : Nat)] ∧ SqL K H s (ns.map V.int) ∧ (∀ z ∈ ns, Builtin.Int.intBits z ≤ 1048576) ∧ k ≤ 1000 ∧
  ∀ l H', Same H H' → H l = none → PoolAt H' l → Q (.ref l) H'
theorem ok_pool (T : Tx P K mg a) : FnOk P w K mg base CX0 1 a.f__law_pool a.d__law_pool ["script", "k"] (spPool K) := by
  refine T._law_pool.fn.ok sc__law_pool (fun vs H Q E h => ?_) (fun cdv A outer s H vs Q E hr h => ?_)
  · obtain ⟨l, ns, k, rfl, _⟩ := h
    rfl
  · obtain ⟨l, ns, k, rfl, hs, hb, hk, q⟩ := h
    have nd := sc__law_pool.nd
    refine ⟨_, (pss_cons (ps_set (i := 2) nd rfl (Or.inl rfl) pe_int)
      (pss_cons (ps_if (pt_cmpR op_lt (pv 1) (cb_len T.bi (pa_cons (pv 0) pa_nil)) (nomark _))
        (pss_one (ps_set (i := 2) nd rfl (Or.inl rfl) (pe_ix ix_A (pv 0) (pv 1) (fun _ _ => rfl)))) pss_nil)
      (pss_cons (ps_set (i := 3) nd rfl (Or.inl rfl) (cb_max T.bi (pa_cons (cb_int T.bi (pa_cons (pv 2) pa_nil)) (pa_cons (cb_int T.bi (pa_cons (pe_op op_sub (pe_un un_neg pe_int) (pv 2)) pa_nil)) pa_nil))))
      (pss_cons (ps_set (i := 4) nd rfl (Or.inl rfl) (pe_op op_mod (cb_int T.bi (pa_cons (pe_op op_mulA (pe_op op_addA (pe_op op_addA (pe_op op_addA (pe_op op_mod (cb_int T.bi (pa_cons (pv 3) pa_nil)) pe_int) (pe_op op_mulA (pe_op op_mulA pe_int (pv 1)) (pv 1))) (pe_op op_mulA pe_int (pv 1))) pe_int) pe_int) pa_nil)) pe_int))
      (pss_one (ps_ret (pe_lst (pa_cons (pe_op op_mulA (pv 3) (cb_int T.bi (pa_cons (pe_cmpR op_ge (pv 3) (pe_op op_pow pe_int pe_int) (nomark _)) pa_nil))) (pa_cons (pv 4) pa_nil))))))))), ?_⟩
    have big : (2 : Nat) ^ 1048577 = 2 * 2 ^ 1048576 := Nat.pow_succ'
    have sz : ∀ c : Int, c.natAbs < 2 ^ 1048576 → (0 : Int) ≤ (if -1 - c > c then -1 - c else c) ∧ (if -1 - c > c then -1 - c else c).natAbs < 2 ^ 1048577 := fun c hc => by
      generalize (2 : Nat) ^ 1048576 = N at hc big
      rw [big]
      split <;> omega
    have kb : ((k : Nat) : Int).natAbs < 2 ^ 10 := by omega
    have m1 : (7919 * (k : Int)).natAbs < 2 ^ 23 := by omega
    refine ⟨_, rfl, _, rfl, lenL hs ?_⟩
    refine ⟨_, _, rfl, rfl, _, rfl, ?_⟩
    have kk : 0 ≤ 7919 * (k : Int) * k ∧ 7919 * (k : Int) * k ≤ 7919 * 1000 * 1000 := by
      have h0 : (0 : Int) ≤ k := Int.natCast_nonneg _
      have h1 : (k : Int) ≤ 1000 := Int.ofNat_le.mpr hk
      have h2 : (k : Int) * k ≤ 1000 * 1000 := Int.mul_le_mul h1 h1 h0 (by decide)
      have h3 : (0 : Int) ≤ (k : Int) * k := Int.mul_nonneg h0 h0
      rw [Int.mul_assoc]
      omega
    have sm : ∀ c : Int, (c % 2147483629 + 7919 * (k : Int) * k + 31 * (k : Int) + 17).natAbs < 2 ^ 60 := fun c => by
      have h1 := Int.emod_nonneg c (show (2147483629 : Int) ≠ 0 by decide)
      have h2 := Int.emod_lt_of_pos c (show (0 : Int) < 2147483629 by decide)
      generalize 7919 * (k : Int) * k = y at kk
      omega
    have km : ((k : Int) * 7919).natAbs < 2 ^ 23 := by omega
    have fin : ∀ (c : Int), c.natAbs < 2 ^ 1048576 → ∀ p H', H' p = some (HO.lst [.int ((if -1 - c > c then -1 - c else c) * (if (decide ((10 : Int) ^ (18 : Int).toNat ≤ (if -1 - c > c then -1 - c else c))) then 1 else 0)), .int (((if -1 - c > c then -1 - c else c) % 2147483629 + 7919 * (k : Int) * k + 31 * k + 17) * 48271 % 2147483647)]) → PoolAt H' p := fun c hc p H' h =>
      ⟨_, _, h, Int.emod_nonneg _ (by decide), Int.emod_lt_of_pos _ (by decide)⟩
    by_cases hl : k < ns.length
    · rw [decide_eq_true (by rw [List.length_map]; exact Int.ofNat_lt.mpr hl)]
      have hc := bits_lt (hb _ (List.getElem_mem hl))
      refine ⟨_, rfl, _, rfl, ixL (v := .int ns[k]) hs (by simp [hl]) ?_⟩
      have fin := fin _ hc
      have sz := sz _ hc
      refine ⟨_, rfl, intI ?_⟩
      refine ⟨1, rfl, _, rfl, _, _, rfl, rfl, intI (max2 ?_)⟩
      refine ⟨_, rfl, intI ?_⟩
      refine ⟨_, _, rfl, rfl, (show (0 : Int) < 2147483629 by decide), ?_⟩
      refine ⟨_, rfl, mulI (mulx_ok (a := 13) (b := 10) (by decide) kb (by decide)) ?_⟩
      refine ⟨_, rfl, mulI (mulx_ok (a := 23) (b := 10) m1 kb (by decide)) (addI ?_)⟩
      refine ⟨_, rfl, mulI (mulx_ok (a := 5) (b := 10) (by decide) kb (by decide)) (addI ?_)⟩
      refine addI (mulI (mulx_ok (a := 60) (b := 16) (sm _) (by decide) (by decide)) (intI ?_))
      refine ⟨_, _, rfl, rfl, (show (0 : Int) < 2147483647 by decide), ?_⟩
      refine ⟨_, rfl, _, rfl, 10, 18, rfl, rfl, ⟨by decide, by decide, by decide⟩, _, _, rfl, rfl, intB ?_⟩
      refine mulI (mulx_ok (a := 1048577) (b := 1) sz.2 (b01 _) (by decide)) ?_
      refine ⟨_, rfl, by show 2 ≤ sizeLine; decide, fun p hp => ?_⟩
      exact q p _ (sNew hp) hp (fin p _ upd_same)
    · rw [decide_eq_false (by rw [List.length_map]; exact fun h => hl (Int.ofNat_lt.mp h))]
      have hc : (0 : Int).natAbs < 2 ^ 1048576 := Nat.two_pow_pos _
      have fin := fin _ hc
      have sz := sz _ hc
      refine ⟨_, rfl, intI ?_⟩
      refine ⟨1, rfl, _, rfl, _, _, rfl, rfl, intI (max2 ?_)⟩
      refine ⟨_, rfl, intI ?_⟩
      refine ⟨_, _, rfl, rfl, (show (0 : Int) < 2147483629 by decide), ?_⟩
      refine ⟨_, rfl, mulI (mulx_ok (a := 13) (b := 10) (by decide) kb (by decide)) ?_⟩
      refine ⟨_, rfl, mulI (mulx_ok (a := 23) (b := 10) m1 kb (by decide)) (addI ?_)⟩
      refine ⟨_, rfl, mulI (mulx_ok (a := 5) (b := 10) (by decide) kb (by decide)) (addI ?_)⟩
      refine addI (mulI (mulx_ok (a := 60) (b := 16) (sm _) (by decide) (by decide)) (intI ?_))
      refine ⟨_, _, rfl, rfl, (show (0 : Int) < 2147483647 by decide), ?_⟩
      refine ⟨_, rfl, _, rfl, 10, 18, rfl, rfl, ⟨by decide, by decide, by decide⟩, _, _, rfl, rfl, intB ?_⟩
      refine mulI (mulx_ok (a := 1048577) (b := 1) sz.2 (b01 _) (by decide)) ?_
      refine ⟨_, rfl, by show 2 ≤ sizeLine; decide, fun p hp => ?_⟩
      exact q p _ (sNew hp) hp (fin p _ upd_same)
theorem ixP0 {H : Hp} {Q : VK} {l : Addr} {p q : Int} (h : H l = some (.lst [.int p, .int q])) (k : Q (.int p) H) : rIxA K (.ref l) (.int 0) H Q := ixL (i := 0) (.inl (.inl h)) rfl k
theorem ixP1 {H : Hp} {Q : VK} {l : Addr} {p q : Int} (h : H l = some (.lst [.int p, .int q])) (k : Q (.int q) H) : rIxA K (.ref l) (.int 1) H Q := ixL (i := 1) (.inl (.inl h)) rfl k
def spTake : Sp := fun vs H Q _ => ∃ (l : Addr) (b : Int), vs = [.ref l, .int b] ∧ PoolAt H l ∧ 0 < b ∧ b < 1000000 ∧ ∀ r H', But l H H' → PoolAt H' l → 0 ≤ r → r < b → Q (.int r) H'
theorem ok_take (T : Tx P K mg a) : FnOk P w K mg base CX0 1 a.f__law_take a.d__law_take ["pool", "bound"] spTake := by
  refine T._law_take.fn.ok sc__law_take (fun vs H Q E h => ?_) (fun cdv A outer s H vs Q E hr h => ?_)
  · obtain ⟨l, b, rfl, _⟩ := h
    rfl
  · obtain ⟨l, b, rfl, ⟨p, q, hl, q0, q1⟩, hb, hb2, k⟩ := h
    have nd := sc__law_take.nd
    refine ⟨_, (pss_cons (ps_if (pt_cmpR op_gt (pe_ix ix_A (pv 0) pe_int (fun _ _ => rfl)) pe_int (nomark _))
        (pss_cons (ps_set (i := 2) nd rfl (Or.inl rfl) (pe_op op_mod (cb_int T.bi (pa_cons (pe_ix ix_A (pv 0) pe_int (fun _ _ => rfl)) pa_nil)) (pv 1)))
        (pss_cons (ps_asg (pe_op op_fdivW (pe_ix ix_A (pv 0) pe_int (fun _ _ => rfl)) (pv 1)) (pg_sub (pv 0) pe_int set_list))
        (pss_one (ps_ret (pv 2))))) pss_nil)
      (pss_cons (ps_asg (pe_op op_mod (cb_int T.bi (pa_cons (pe_op op_addA (pe_op op_mulA (pe_ix ix_A (pv 0) pe_int (fun _ _ => rfl)) pe_int) pe_int) pa_nil)) pe_int) (pg_sub (pv 0) pe_int set_list))
      (pss_one (ps_ret (pe_op op_mod (cb_int T.bi (pa_cons (pe_op op_fdivW (pe_op op_mod (cb_int T.bi (pa_cons (pe_op op_mulA (pe_ix ix_A (pv 0) pe_int (fun _ _ => rfl)) (pe_ix ix_A (pv 0) pe_int (fun _ _ => rfl))) pa_nil)) pe_int) pe_int) pa_nil)) (pv 1)))))), ?_⟩
    refine ⟨_, rfl, ixP0 hl ?_⟩
    refine ⟨p, 0, rfl, rfl, _, rfl, ?_⟩
    by_cases hp : 0 < p
    · rw [decide_eq_true hp]
      refine ⟨_, rfl, ixP0 hl (intI ?_)⟩
      refine ⟨_, rfl, _, _, rfl, rfl, hb, ?_⟩
      refine ⟨_, rfl, ixP0 hl ?_⟩
      refine ⟨_, rfl, _, _, rfl, rfl, wide_div (b := 20) hb (by omega) (by decide) (by decide), ?_⟩
      refine ⟨_, rfl, l, _, 0, 0, rfl, rfl, hl, rfl, ?_⟩
      exact ⟨_, rfl, k _ _ (But.upd) ⟨_, _, upd_same, q0, q1⟩ (Int.emod_nonneg _ (by omega)) (Int.emod_lt_of_pos _ hb)⟩
    · rw [decide_eq_false hp]
      refine ⟨_, rfl, ixP1 hl ?_⟩
      refine mulI (mulx_ok (a := 31) (b := 16) (by omega) (by decide) (by decide)) (addI (intI ?_))
      refine ⟨_, _, rfl, rfl, (show (0 : Int) < 2147483647 by decide), ?_⟩
      refine ⟨_, rfl, l, _, 1, 1, rfl, rfl, hl, rfl, ?_⟩
      have g0 := Int.emod_nonneg (q * 39373 + 7) (show (2147483647 : Int) ≠ 0 by decide)
      have g1 := Int.emod_lt_of_pos (q * 39373 + 7) (show (0 : Int) < 2147483647 by decide)
      have hl2 : (upd H l (.lst ([V.int p, .int q].set 1 (.int ((q * 39373 + 7) % 2147483647))))) l = some (.lst [.int p, .int ((q * 39373 + 7) % 2147483647)]) := upd_same
      refine ⟨_, rfl, ixP1 hl2 ?_⟩
      refine ⟨_, rfl, ixP1 hl2 ?_⟩
      refine mulI (mulx_ok (a := 31) (b := 31) (by omega) (by omega) (by decide)) (intI ?_)
      refine ⟨_, _, rfl, rfl, (show (0 : Int) < 2147483629 by decide), ?_⟩
      refine ⟨_, _, rfl, rfl, ⟨(show (0 : Int) < 32 by decide), by decide⟩, intI ?_⟩
      refine ⟨_, rfl, _, _, rfl, rfl, hb, ?_⟩
      exact k _ _ (But.upd) ⟨_, _, hl2, g0, g1⟩ (Int.emod_nonneg _ (by omega)) (Int.emod_lt_of_pos _ hb)
def spOne (K : PySem.W.Frag) : Sp := fun vs H Q _ => ∃ (l : Addr) (x : V), vs = [.ref l, x] ∧ PoolAt H l ∧
  ((∃ p xs, x = .ref p ∧ p ≠ l ∧ SqL K H p xs ∧ xs ≠ [] ∧ xs.length < 1000 ∧ ∀ (i : Nat) y H', But l H H' → PoolAt H' l → xs[i]? = some y → Q y H') ∨ (∃ z : Str, x = .str z ∧ 0 < z.length ∧ z.length < 1000 ∧ ∀ c H', But l H H' → PoolAt H' l → c ∈ ls z → Q (.str (tx [c])) H'))
theorem ok_one (T : Tx P K mg a) : FnOk P w K mg base CX0 2 a.f__law_one a.d__law_one ["pool", "things"] (spOne K) := by
  have F1 : FnOk P w K mg base CX0 1 a.f__law_take a.d__law_take ["pool", "bound"] spTake := ok_take T
  refine T._law_one.fn.ok sc__law_one (fun vs H Q E h => ?_) (fun cdv A outer s H vs Q E hr h => ?_)
  · obtain ⟨l, b, rfl, _⟩ := h
    rfl
  · obtain ⟨l, x, rfl, hP, h⟩ := h
    refine ⟨_, (pss_one (ps_ret (pe_ix ix_A (pv 1) (pe_cf T._law_take F1 hr (pa_cons (pv 0) (pa_cons (cb_len T.bi (pa_cons (pv 1) pa_nil)) pa_nil))) (fun _ _ => rfl)))), ?_⟩
    rcases h with ⟨p, xs, rfl, ne, hx, h0, h1, k⟩ | ⟨z, rfl, h0, h1, k⟩
    · refine ⟨_, rfl, _, rfl, _, rfl, lenL hx ?_⟩
      have : 0 < xs.length := List.length_pos_iff.mpr h0
      refine ⟨l, _, rfl, hP, by omega, by omega, fun r H1 b1 hP1 r0 r1 => ?_⟩
      obtain ⟨i, rfl⟩ := Int.eq_ofNat_of_zero_le r0
      have hi : i < xs.length := Int.ofNat_lt.mp r1
      exact ixL (But.sql b1 ne hx) (List.getElem?_eq_getElem hi) (k i _ _ b1 hP1 (List.getElem?_eq_getElem hi))
    · have zl : z.length ≤ sizeLine := by have := PySem.sizeLine_eq; omega
      refine ⟨_, rfl, _, rfl, _, rfl, lenS zl ?_⟩
      refine ⟨l, _, rfl, hP, by omega, by omega, fun r H1 b1 hP1 r0 r1 => ?_⟩
      obtain ⟨i, rfl⟩ := Int.eq_ofNat_of_zero_le r0
      have hi : i < (ls z).length := by rw [ls_len]; exact Int.ofNat_lt.mp r1
      exact ixS zl (List.getElem?_eq_getElem hi) (k _ _ b1 hP1 (List.getElem_mem hi))
end
end Z
set_option maxRecDepth 100000
set_option maxHeartbeats 4000000
namespace Z
open PySem PySem.Spec PyProof.Rows L2
theorem ls_join0 : ∀ ys : List Str, ls (Str.join ("" : Str) ys) = (ys.map ls).flatten
  | [] => rfl
  | [x] => by
    show ls x = _
    simp
  | x :: y :: r => by
    show ls (x ++ ("" : Str) ++ Str.join ("" : Str) (y :: r)) = _
    rw [ls_app, ls_app, ls_join0 (y :: r)]
    have : ls ("" : Str) = [] := by decide +kernel
    rw [this]
    simp
def Short (w : Str) : Prop := 1 ≤ w.length ∧ w.length ≤ 5 ∧ ∀ c ∈ ls w, isLB c = true
theorem Short.word {w : Str} (h : Short w) : Word w := ⟨h.1, by have := h.2.1; omega, fun c hc => isLB_iff.mp (h.2.2 c hc)⟩
theorem sl10 : 1000 ≤ sizeLine := by decide
theorem But.fr {l D : Addr} {H H' : Hp} {o : HO} (hD : H D = none) (b : But l H H') : But l H (L2.upd H' D o) := fun c u hc e => by
  rw [upd_ne (ne_of_none e hD)]
  exact b c u hc e
theorem txj (sep : Str) (ys : List Str) : Txt.join sep ys = Str.join sep ys := PySem.StrLaws.glued_eq_join sep ys
theorem But.non {l D : Addr} {H HB : Hp} (b : But l H HB) (ne : D ≠ l) (n : HB D = none) : H D = none := by
  cases e : H D with
  | none => rfl
  | some o =>
    have := b D o ne e
    rw [n] at this
    cases this
theorem But.fr2 {l D : Addr} {H HB H' : Hp} {o : HO} (b : But l H HB) (ne : D ≠ l) (n : HB D = none) (b2 : But l H H') : But l H (L2.upd H' D o) := But.fr (b.non ne n) b2
theorem ixSm {K : PySem.W.Frag} {H : Hp} {Q : VK} {z : Str} {i : Int} (hz : z.length ≤ sizeLine) (h0 : 0 ≤ i) (h1 : i < z.length) (q : ∀ c, c ∈ ls z → Q (.str (tx [c])) H) : rIxA K (.str z) (.int i) H Q := by
  obtain ⟨j, rfl⟩ := Int.eq_ofNat_of_zero_le h0
  have hj : j < (ls z).length := by rw [ls_len]; exact Int.ofNat_lt.mp h1
  exact ixS hz (List.getElem?_eq_getElem hj) (q _ (List.getElem_mem hj))
def Sgn (y : Str) : Prop := ∃ c, y = tx [c] ∧ isLB c = true
theorem join_sgn : ∀ {ys : List Str}, (∀ y ∈ ys, Sgn y) → (Str.join ("" : Str) ys).length = ys.length ∧ (∀ c ∈ ls (Str.join ("" : Str) ys), isLB c = true) ∧ (ys.map (·.length)).sum = ys.length := by
  intro ys h
  rw [← ls_len, ls_join0]
  induction ys with
  | nil => exact ⟨rfl, fun c hc => by simp at hc, rfl⟩
  | cons y ys ih =>
    obtain ⟨c, rfl, hc⟩ := h y List.mem_cons_self
    obtain ⟨h1, h2, h3⟩ := ih fun z hz => h z (List.mem_cons_of_mem _ hz)
    refine ⟨by simp only [List.map_cons, List.flatten_cons, List.length_append, ls_tx, h1, List.length_cons, List.length_nil]; omega, fun d hd => ?_, by simp only [List.map_cons, List.sum_cons, h3, tx_len, List.length_cons, List.length_nil]; omega⟩
    rw [List.map_cons, List.flatten_cons, ls_tx, List.mem_append] at hd
    rcases hd with hd | hd
    · rw [List.mem_singleton] at hd
      rw [hd]
      exact hc
    · exact h2 d hd
theorem snoc_all {α : Type} {p : α → Prop} {l : List α} {x : α} (h : ∀ y ∈ l, p y) (hx : p x) : ∀ y ∈ l ++ [x], p y := fun y hy => by
  rcases List.mem_append.mp hy with hy | hy
  · exact h y hy
  · rw [List.mem_singleton] at hy
    rw [hy]
    exact hx
theorem mem_sLet {c : Nat} (h : c ∈ ls ("abcdefghijklmnopqrstuvwxyz" : Str)) : isLB c = true := by
  have := mem_let' c
  rw [← this]
  exact decide_eq_true h
theorem len_sLet : ("abcdefghijklmnopqrstuvwxyz" : Str).length = 26 := by decide +kernel
section
variable {P : Program} {w : World} {K : PySem.W.Frag} {mg : Str → Option Value} {base : Heap} {a : Ad}
theorem PoolAt.same {H H' : Hp} {l : Addr} (e : Same H H') (h : PoolAt H l) : PoolAt H' l := by
  obtain ⟨p, q, h1, h2⟩ := h
  exact ⟨p, q, e _ _ h1, h2⟩
theorem PoolAt.ne {H : Hp} {l : Addr} (h : PoolAt H l) {D : Addr} (hD : H D = none) : l ≠ D := by
  obtain ⟨p, q, h1, h2⟩ := h
  exact ne_of_none h1 hD
theorem PoolAt.upd {H : Hp} {l D : Addr} {o : HO} (h : PoolAt H l) (ne : l ≠ D) : PoolAt (L2.upd H D o) l := by
  obtain ⟨p, q, h1, h2⟩ := h
  exact ⟨p, q, by rw [upd_ne ne]; exact h1, h2⟩
def letterV : List Int := [1, 3, 5, 7, 9, 11, 15, 17, 19, 21, 23, 25]
def spWords (K : PySem.W.Frag) : Sp := fun vs H Q _ => ∃ (l : Addr), vs = [.ref l, .int 3] ∧ PoolAt H l ∧
  ∀ p w1 w2 w3 H', But l H H' → PoolAt H' l → H p = none → H' p = some (.lst [.str w1, .str w2, .str w3]) → Short w1 → Short w2 → Short w3 → Q (.ref p) H'
theorem ok_words (T : Tx P K mg a) : FnOk P w K mg base CX0 3 a.f__law_words a.d__law_words ["pool", "bound"] (spWords K) := by
  have F1 : FnOk P w K mg base CX0 1 a.f__law_take a.d__law_take ["pool", "bound"] spTake := ok_take T
  have F2 : FnOk P w K mg base CX0 2 a.f__law_one a.d__law_one ["pool", "things"] (spOne K) := ok_one T
  refine T._law_words.fn.ok sc__law_words (fun vs H Q E h => ?_) (fun cdv A outer s H vs Q E hr h => ?_)
  · obtain ⟨l, rfl, _⟩ := h
    rfl
  · obtain ⟨l, rfl, hP, k⟩ := h
    have nd := sc__law_words.nd
    have hr1 : Room 1 _ := hr.mono (by decide)
    refine ⟨_, (pss_cons (ps_set (i := 2) nd rfl (Or.inr rfl) pe_str)
      (pss_cons (ps_asg (pe_tup (pa_cons (pe_cf T._law_take F1 hr1 (pa_cons (pv 0) (pa_cons pe_int pa_nil))) (pa_cons (pe_cf T._law_one F2 hr (pa_cons (pv 0) (pa_cons (pe_lst (pa_cons pe_int (pa_cons pe_int (pa_cons pe_int (pa_cons pe_int (pa_cons pe_int (pa_cons pe_int (pa_cons pe_int (pa_cons pe_int (pa_cons pe_int (pa_cons pe_int (pa_cons pe_int (pa_cons pe_int pa_nil))))))))))))) pa_nil))) pa_nil))) (pg_tup rfl (pgs_cons (pg_name (i := 3) nd rfl (Or.inr rfl)) (pgs_cons (pg_name (i := 4) nd rfl (Or.inr rfl)) pgs_nil))))
      (pss_cons (ps_set (i := 5) nd rfl (Or.inr rfl) (pe_join pe_str (pe_lc (own := [("turn", 7)]) (by rfl) nd (pi_range1 rfl T.bi.range (pa_cons (pe_cf T._law_take F1 hr1 (pa_cons (pv 0) (pa_cons pe_int pa_nil))) pa_nil)) (blkOk_by (own := [("turn", 7)]) (N := ["pool", "bound", "letters", "first", "stride", "head", "tail", "turn", "spot"]) (sc := defScope s__law_words) (by decide +kernel)) (fun _ _ _ _ _ => (pg_name (i := 7) nd rfl (Or.inl rfl))) (fun _ _ _ _ _ => pts_nil) (fun _ _ _ _ _ => (pe_cf T._law_one F2 hr (pa_cons (pv 0) (pa_cons (pv 2) pa_nil)))))))
      (pss_cons (ps_set (i := 6) nd rfl (Or.inr rfl) (pe_join pe_str (pe_lc (own := [("turn", 7)]) (by rfl) nd (pi_range1 rfl T.bi.range (pa_cons (pe_cf T._law_take F1 hr1 (pa_cons (pv 0) (pa_cons pe_int pa_nil))) pa_nil)) (blkOk_by (own := [("turn", 7)]) (N := ["pool", "bound", "letters", "first", "stride", "head", "tail", "turn", "spot"]) (sc := defScope s__law_words) (by decide +kernel)) (fun _ _ _ _ _ => (pg_name (i := 7) nd rfl (Or.inl rfl))) (fun _ _ _ _ _ => pts_nil) (fun _ _ _ _ _ => (pe_cf T._law_one F2 hr (pa_cons (pv 0) (pa_cons (pv 2) pa_nil)))))))
      (pss_one (ps_ret (pe_lc (own := [("spot", 8)]) (by rfl) nd (pi_range1 rfl T.bi.range (pa_cons (pv 1) pa_nil)) (blkOk_by (own := [("spot", 8)]) (N := ["pool", "bound", "letters", "first", "stride", "head", "tail", "turn", "spot"]) (sc := defScope s__law_words) (by decide +kernel)) (fun _ _ _ _ _ => (pg_name (i := 8) nd rfl (Or.inl rfl))) (fun _ _ _ _ _ => pts_nil) (fun _ _ _ _ _ => (pe_op (op_addA (K := K)) (pe_op (op_addA (K := K)) (pv 5) (pe_ix (ix_A (K := K)) (pv 2) (pe_op op_mod (cb_int T.bi (pa_cons (pe_op (op_addA (K := K)) (pv 3) (pe_op op_mulA (pv 4) (pv 8))) pa_nil)) pe_int) (fun _ _ => rfl))) (pv 6)))))))))), ?_⟩
    refine ⟨_, rfl, l, 26, rfl, hP, by decide, by decide, fun r0 H1 b1 P1 r00 r01 => ?_⟩
    refine ⟨_, rfl, by show 12 ≤ sizeLine; decide, fun p1 n1 => ?_⟩
    have ne1 := P1.ne n1
    refine ⟨l, _, rfl, P1.upd ne1, .inl ⟨p1, _, rfl, ne1.symm, .inl (.inl upd_same), by simp, by show 12 < 1000; decide, fun i y H2 b2 P2 hy => ?_⟩⟩
    obtain ⟨m, rfl, m0, m1⟩ : ∃ m : Int, y = .int m ∧ 0 ≤ m ∧ m ≤ 25 := by
      have := List.mem_of_getElem? hy
      simp only [List.mem_cons, List.not_mem_nil, or_false] at this
      rcases this with rfl | rfl | rfl | rfl | rfl | rfl | rfl | rfl | rfl | rfl | rfl | rfl <;> exact ⟨_, rfl, by decide, by decide⟩
    refine ⟨by show 2 ≤ sizeLine; decide, fun pt nt => ?_⟩
    refine ⟨pt, _, rfl, .inl (.inl upd_same), rfl, _, _, rfl, _, _, rfl, rfl, ?_⟩
    have bX : But l H (upd H2 pt (.tup [V.int r0, .int m])) := (b1.trans ((But.same (sNew n1) l).trans b2)).trans (But.same (sNew nt) l)
    have PX : PoolAt (upd H2 pt (.tup [V.int r0, .int m])) l := P2.upd (P2.ne nt)
    refine ⟨⟨_, rfl⟩, _, rfl, l, 3, rfl, PX, by decide, by decide, fun rA HA bA PA_ rA0 rA1 => ⟨rA, rfl, by omega, by omega, fun DA nA => ?_⟩⟩
    refine lc_it (walk_range (lo := 0) (n := rA.toNat)) (fun i H' => PoolAt H' l ∧ But l HA H' ∧ ∃ ys : List Str, H' DA = some (.lst (ys.map V.str)) ∧ ys.length = i ∧ ∀ y ∈ ys, Sgn y) ⟨PA_.upd (PA_.ne nA), But.fr nA (But.refl _ _), [], upd_same, rfl, fun y hy => nomatch hy⟩ (fun _ _ _ _ => trivial) ?_ ?_
    · rintro i x H2 H2' hi ⟨Pz, bz, ys, hA, ly, ay⟩ ⟨rfl, rfl⟩
      refine ⟨rfl, _, rfl, _, rfl, l, _, rfl, Pz, .inr ⟨_, rfl, by rw [len_sLet]; decide, by rw [len_sLet]; decide, fun c H3 b3 P3 hc => ?_⟩⟩
      have nDl : DA ≠ l := (PA_.ne nA).symm
      refine ⟨_, b3 _ _ nDl hA, by rw [List.length_map, ly]; have := sl10; omega, P3.upd nDl.symm, But.fr nA (bz.trans b3), ys ++ [tx [c]], by rw [upd_same, List.map_append]; rfl, by rw [List.length_append, ly]; rfl, snoc_all ay ⟨c, rfl, mem_sLet hc⟩⟩
    rintro HB1 ⟨PB1, bB, ys1, hA, ly, ay⟩
    obtain ⟨j1, j2, j3⟩ := join_sgn ay
    refine ⟨_, DA, ys1, rfl, rfl, .inl (.inl (.inl hA)), by rw [j3, show ("" : Str).length = 0 by decide +kernel]; omega, ?_⟩
    have bY1 := (bX.trans bA).trans bB
    have jl1 : (Txt.join ("" : Str) ys1).length ≤ 2 := by
      rw [txj, j1]
      omega
    have jm1 : ∀ c ∈ ls (Txt.join ("" : Str) ys1), isLB c = true := by
      rw [txj]
      exact j2
    clear bX bA bB PA_ ly hA j1 j2 j3 ay
    refine ⟨⟨_, rfl⟩, _, rfl, l, 3, rfl, PB1, by decide, by decide, fun rA HA bA PA_ rA0 rA1 => ⟨rA, rfl, by omega, by omega, fun DA nA => ?_⟩⟩
    refine lc_it (walk_range (lo := 0) (n := rA.toNat)) (fun i H' => PoolAt H' l ∧ But l HA H' ∧ ∃ ys : List Str, H' DA = some (.lst (ys.map V.str)) ∧ ys.length = i ∧ ∀ y ∈ ys, Sgn y) ⟨PA_.upd (PA_.ne nA), But.fr nA (But.refl _ _), [], upd_same, rfl, fun y hy => nomatch hy⟩ (fun _ _ _ _ => trivial) ?_ ?_
    · rintro i x H2 H2' hi ⟨Pz, bz, ys, hA, ly, ay⟩ ⟨rfl, rfl⟩
      refine ⟨rfl, _, rfl, _, rfl, l, _, rfl, Pz, .inr ⟨_, rfl, by rw [len_sLet]; decide, by rw [len_sLet]; decide, fun c H3 b3 P3 hc => ?_⟩⟩
      have nDl : DA ≠ l := (PA_.ne nA).symm
      refine ⟨_, b3 _ _ nDl hA, by rw [List.length_map, ly]; have := sl10; omega, P3.upd nDl.symm, But.fr nA (bz.trans b3), ys ++ [tx [c]], by rw [upd_same, List.map_append]; rfl, by rw [List.length_append, ly]; rfl, snoc_all ay ⟨c, rfl, mem_sLet hc⟩⟩
    rintro HB2 ⟨PB2, bB, ys2, hA, ly, ay⟩
    obtain ⟨j1, j2, j3⟩ := join_sgn ay
    refine ⟨_, DA, ys2, rfl, rfl, .inl (.inl (.inl hA)), by rw [j3, show ("" : Str).length = 0 by decide +kernel]; omega, ?_⟩
    have bY2 := (bY1.trans bA).trans bB
    have jl2 : (Txt.join ("" : Str) ys2).length ≤ 2 := by
      rw [txj, j1]
      omega
    have jm2 : ∀ c ∈ ls (Txt.join ("" : Str) ys2), isLB c = true := by
      rw [txj]
      exact j2
    clear bY1 bA bB PA_ ly hA j1 j2 j3 ay
    refine ⟨_, rfl, 3, rfl, by decide, by decide, fun D nD => ?_⟩
    have nDl := PB2.ne nD
    refine lc_it (walk_range (lo := 0) (n := (3 : Int).toNat)) (fun i H' => PoolAt H' l ∧ But l H H' ∧ ∃ ws : List Str, H' D = some (.lst (ws.map V.str)) ∧ ws.length = i ∧ ∀ y ∈ ws, Short y) ⟨PB2.upd nDl, bY2.trans (But.same (sNew nD) l), [], upd_same, rfl, fun y hy => nomatch hy⟩ (fun _ _ _ _ => trivial) ?_ ?_
    · rintro i x H2 H2' hi ⟨Pz, bz, ws, hA, ly, ay⟩ ⟨rfl, rfl⟩
      have hi' : i < 3 := hi
      have S26 := len_sLet
      have sl := sl10
      refine ⟨rfl, _, rfl, _, rfl, _, rfl, _, rfl, _, rfl, mulI (mulx_ok (a := 10) (b := 10) (by omega) (by omega) (by decide)) (addI (intI ?_))⟩
      refine ⟨_, _, rfl, rfl, (show (0 : Int) < 26 by decide), ?_⟩
      refine ixSm (by rw [S26]; decide) (Int.emod_nonneg _ (by decide)) (by rw [S26]; exact Int.emod_lt_of_pos _ (by decide)) fun c hc => ?_
      refine addS (by rw [tx_len]; show _ + 1 ≤ _; omega) ⟨_, rfl, addS (by rw [len_app, tx_len]; show _ + 1 + _ ≤ _; omega) ?_⟩
      have ws3 : ws.length < sizeLine := by omega
      refine ⟨_, hA, by rw [List.length_map]; exact ws3, Pz.upd nDl, But.fr2 bY2 nDl.symm nD bz, ws ++ [Txt.join ("" : Str) ys1 ++ tx [c] ++ Txt.join ("" : Str) ys2], by rw [upd_same, List.map_append]; rfl, by rw [List.length_append, ly]; rfl, snoc_all ay ⟨?_, ?_, ?_⟩⟩
      · rw [len_app, len_app, tx_len]
        show 1 ≤ _ + 1 + _
        omega
      · rw [len_app, len_app, tx_len]
        show _ + 1 + _ ≤ 5
        omega
      · intro d hd
        rw [ls_app, ls_app, ls_tx, List.mem_append, List.mem_append, List.mem_singleton] at hd
        rcases hd with (hd | rfl) | hd
        · exact jm1 d hd
        · exact mem_sLet hc
        · exact jm2 d hd
    · rintro H3 ⟨P3, b3, ws, hA, ly, ay⟩
      match ws, ly with
      | [w1, w2, w3], _ => exact k D w1 w2 w3 H3 b3 P3 (bY2.non nDl.symm nD) hA (ay w1 (by simp)) (ay w2 (by simp)) (ay w3 (by simp))
end
end Z
set_option maxRecDepth 100000
set_option maxHeartbeats 4000000
namespace Z
open PySem PySem.Spec PyProof.Rows L2
theorem plp_back {f : List Nat → Option (Tr × List Nat)} (h : ∀ l t r, f l = some (t, r) → ls t.text ++ r = l) {a b c e : Tr} {l z : List Nat} (hp : plp f codes l = some ([a, b, c, e], z)) : ls a.text ++ (61 :: (ls b.text ++ (63 :: (ls c.text ++ (58 :: (ls e.text ++ (41 :: z))))))) = l := by
  have step : ∀ {s : Nat} {ss l : List Nat} {t : Tr} {ts : List Tr} {z : List Nat}, plp f (s :: ss) l = some (t :: ts, z) → ∃ q, ls t.text ++ s :: q = l ∧ plp f ss q = some (ts, z) := fun {s ss l t ts z} e => by
    unfold plp at e
    split at e
    · rename_i t' c' q e1
      split at e
      · rename_i hcs
        split at e
        · rename_i us y e2
          cases e
          exact ⟨q, by rw [← hcs]; exact h _ _ _ e1, e2⟩
        · cases e
      · cases e
    · cases e
  obtain ⟨q1, h1, p1⟩ := step hp
  obtain ⟨q2, h2, p2⟩ := step p1
  obtain ⟨q3, h3, p3⟩ := step p2
  obtain ⟨q4, h4, p4⟩ := step p3
  have : q4 = z := by
    unfold plp at p4
    cases p4
    rfl
  rw [← h1, ← h2, ← h3, ← h4, this]
theorem pl_back : ∀ (d : Nat) (l : List Nat) (t : Tr) (r : List Nat), pl d l = some (t, r) → ls t.text ++ r = l
  | 0, l, t, r, h => by cases h
  | d + 1, [], t, r, h => by cases h
  | d + 1, c :: q, t, r, h => by
    unfold pl at h
    split at h
    · rename_i hc
      cases h
      unfold isDB at hc
      simp at hc
      rw [con_text ⟨by omega, by omega⟩]
      show (48 + ((c : Int) - 48).toNat) :: q = _
      rw [show 48 + ((c : Int) - 48).toNat = c by omega]
    · split at h
      · cases h
        show ls (tx ((c :: q).takeWhile isLB)) ++ _ = _
        rw [ls_tx]
        exact List.takeWhile_append_dropWhile
      · split at h
        · cases h
        · rename_i h3
          unfold plx at h
          split at h
          · rename_i a b c' e' z e2
            cases h
            have := plp_back (fun l t r => pl_back d l t r) e2
            rw [cho_text]
            have hc : c = 40 := by omega
            rw [hc]
            simp only [List.cons_append, List.append_assoc, List.nil_append]
            rw [this]
          · cases h
theorem planOf_text {z : Str} {t : Tr} (h : planOf z = some t) : t.text = z := by
  unfold planOf at h
  split at h
  · rename_i u e
    cases h
    have := pl_back 3 _ _ _ e
    rw [List.append_nil] at this
    exact str_ext this
  · cases h
def ShowsAs (K : PySem.W.Frag) (H : Hp) (x : V) (s : Str) : Prop := (∃ d, Dp K H x d ∧ d.showable = true ∧ d.depth ≤ 60 ∧ d.shown.length ≤ sizeLine ∧ s = d.shown) ∨ ∃ e, x = .ref e ∧ H e = some (.dK []) ∧ s = (PyData.dict []).shown
theorem ShowsAs.same {K : PySem.W.Frag} {H H' : Hp} {x : V} {s : Str} (e : Same H H') (h : ShowsAs K H x s) : ShowsAs K H' x s := by
  rcases h with ⟨d, h1, h2⟩ | ⟨p, h1, h2, h3⟩
  · exact .inl ⟨d, dp_same e h1, h2⟩
  · exact .inr ⟨p, h1, e _ _ h2, h3⟩
theorem ShowsAs.repr {K : PySem.W.Frag} {H : Hp} {x : V} {s : Str} {Q : VK} (h : ShowsAs K H x s) (q : Q (.str s) H) : rRepr K [x] H Q := by
  rcases h with ⟨d, h1, h2, h3, h4, rfl⟩ | ⟨p, rfl, h2, rfl⟩
  · exact reprD h1 h2 h3 h4 q
  · exact repr0 h2 q
def Plain (z : Str) (n : Nat) : Prop := z.length ≤ n ∧ ∀ c ∈ ls z, c < 16 ^ 8
theorem Plain.shows {K : PySem.W.Frag} {H : Hp} {z : Str} {n : Nat} (h : Plain z n) (hn : n ≤ 100000) : ShowsAs K H (.str z) (reprText z) := by
  have sl := PySem.sizeLine_eq
  refine .inl ⟨_, .str z, by simp [PyData.showable], by simp [PyData.depth], ?_, by simp only [PyData.shown]⟩
  simp only [PyData.shown]
  have h1 := PySem.StrLaws.reprText_len z h.2
  have h2 := h.1
  omega
theorem cut_plain {z : Str} {n : Nat} (h : Plain z n) (lo hi : Option Int) : ∀ c ∈ ls (cutS z lo hi), c < 16 ^ 8 := fun c hc => by
  unfold cutS at hc
  have : c ∈ (z.cps.toList.drop (HT.sIx z.length 0 lo)).take (HT.sIx z.length z.length hi - HT.sIx z.length 0 lo) := by simpa [ls] using hc
  exact h.2 c (List.mem_of_mem_drop (List.mem_of_mem_take this))
theorem cut_lo {z : Str} {k : Nat} (hk : k ≤ z.length) : (cutS z none (some (k : Nat))).length = k := by
  unfold cutS
  rw [HT.sIx_none, HT.sIx_nat, Nat.min_eq_left hk]
  show (List.toArray _).size = k
  rw [List.size_toArray, List.length_take, List.length_drop, Array.length_toList]
  show min (k - 0) (z.length - 0) = k
  omega
theorem cut_hi {z : Str} {k : Nat} : (cutS z (some (k : Nat)) none).length = z.length - k := by
  unfold cutS
  rw [HT.sIx_none, HT.sIx_nat]
  show (List.toArray _).size = _
  rw [List.size_toArray, List.length_take, List.length_drop, Array.length_toList]
  show min (z.length - min k z.length) (z.length - min k z.length) = z.length - k
  omega
theorem app_plain {a b : Str} (h1 : ∀ c ∈ ls a, c < 16 ^ 8) (h2 : ∀ c ∈ ls b, c < 16 ^ 8) : ∀ c ∈ ls (a ++ b), c < 16 ^ 8 := fun c hc => by
  rw [ls_app, List.mem_append] at hc
  rcases hc with hc | hc
  · exact h1 c hc
  · exact h2 c hc
theorem tyX_same {K : PySem.W.Frag} {H H' : Hp} {x : V} {t : Value} (k : Same H H') (h : TyX K H x t) : TyX K H' x t := by
  cases h with
  | base h =>
    cases h with
    | non => exact .base .non
    | bl b => exact .base (.bl b)
    | int i => exact .base (.int i)
    | str z => exact .base (.str z)
    | flt z => exact .base (.flt z)
    | lst e => exact .base (.lst (k _ _ e))
    | frz e => exact .base (.frz (k _ _ e))
    | tup e => exact .base (.tup (k _ _ e))
    | dK e => exact .base (.dK (k _ _ e))
    | dT e => exact .base (.dT (k _ _ e))
    | ins e cl ha hn htk hm => exact .base (.ins (k _ _ e) cl ha hn htk hm)
  | byt b => exact .byt b
  | set e => exact .set (k _ _ e)
  | kList e c => exact .kList e c
  | kTuple e c => exact .kTuple e c
  | kDict e c => exact .kDict e c
  | fTuple e => exact .fTuple (k _ _ e)
  | fDict e => exact .fDict (k _ _ e)
theorem po_same {K : PySem.W.Frag} {C : Addr} {H H' : Hp} {x : V} {r : Option Tr} (k : Same H H') (h : PO K C H x r) : PO K C H' x r := by
  cases h with
  | str z hz => exact .str z hz
  | own h => exact .own (h.same k)
  | int n => exact .int n
  | oth h k1 k2 e k3 k4 => exact .oth (tyX_same k h) k1 k2 e k3 k4
section
variable {X : Cx} {CX : CXT} {k : Nat} {f C : Addr} {fd : FuncData} {ps : List Str} {sp : Sp} {E : L2.St → XK} {x : Str} {p pos : Pos} {e : Expr} {es : List Expr} {t : TA}
def tMakeX (C : Addr) (sp : Sp) (E : L2.St → XK) (t : TA) : TE := fun σ H Q => t σ H fun vs H1 => ∀ o dx, H1 o = none → H1 dx = none → dx ≠ o → sp (.ref o :: vs) (upd (upd H1 dx (.own o)) o (.ins C dx [])) (fun v H2 => v = .non ∧ Q (.ref o) H2) (E σ)
theorem pe_makeX (M : Mk X.K C f) (F : FnOk X.prog X.w X.K X.mg X.base CX k f fd ps sp) (room : Room (k + 1) X.A) (hg : Gl X x) (hm : X.mg x = some (.ref C)) (bd : Binds X.K fd ps []) (go : ∀ σ, PassesAt CX X σ (E σ))
    (ha : PA X (e :: es) t) (hdb : (x == ("__debug__" : Str)) = false := by decide) (he : starEach (e :: es) X.env = (false, eval e X.env) :: starEach es X.env := by rfl) (hpl : (backTo pos (starEach es X.env)).any (·.1) = false := by rfl) :
    PE X (.Call (.Name x p) (e :: es) [] pos) (tMakeX C sp E t) := by
  constructor
  intro pins s0 σ H0 Q I0 h
  refine wpAny_Call_Name_kw (ld_glob I0 hg hm ?_ hdb)
  refine PySem.W.callWith_K (h₀ := X.base) I0.ok.mod.kin M.kp (thn (ha.run pos pins s0 σ H0 _ I0 h) ?_) he hpl
  rintro us s ⟨vs, H, I, rv, want⟩
  refine ⟨I.kIn, ?_⟩
  have fresh1 := I.hok.fresh (Nat.le_succ s.heap.objs.size)
  have fresh0 := I.hok.fresh (Nat.le_refl s.heap.objs.size)
  have wish := want _ _ fresh1 fresh0 (Nat.ne_of_lt (Nat.lt_succ_self _))
  have J := Inv.made (C := C) I
  have many : Vals (V.ref (s.heap.objs.size + 1) :: vs) (Value.ref (s.heap.objs.size + 1) :: us) := .cons rfl rv
  have few : (Value.ref (s.heap.objs.size + 1) :: us).length = ps.length := many.length.symm.trans (F.len _ _ _ _ wish)
  have bound := bd _ (Value.ref (s.heap.objs.size + 1) :: us) J.kIn (by rw [List.append_nil]; exact few)
  rw [List.append_nil] at bound
  have runs := F.run _ X.stack _ _ ⟨Value.ref (s.heap.objs.size + 1) :: us, []⟩ _ _ _ (E σ) (room.make C us []) (J.env0.make C us []) bound many wish
  refine wpAny_call (make_map (f := f) I.kIn M.makes M.init (beq_iff_eq.mp M.fn) (codeAny_mono runs ?_))
  intro res s' back
  match res, back with
  | .error er, back => exact go σ pins _ _ er s' J back
  | .ok (.ret u), back =>
    obtain ⟨v, H', I3, rv', ev, q3⟩ := J.after back
    subst ev
    exact ⟨rv', ⟨V.ref (s.heap.objs.size + 1), H', I3, rfl, q3⟩⟩
  | .ok .next, back => exact back.elim
  | .ok .brk, back => exact back.elim
  | .ok .cont, back => exact back.elim
end
section
variable {P : Program} {w : World} {K : PySem.W.Frag} {mg : Str → Option Value} {base : Heap} {a : Ad}
def spStr (K : PySem.W.Frag) (C : Addr) : Sp := fun vs H Q _ => ∃ (p : Addr) (t : Tr), vs = [.ref p] ∧ TermAt K C H p t ∧ t.deep ≤ 3 ∧ ∀ H', Same H H' → Q (.str t.text) H'
theorem ok_str (T : Tx P K mg a) : FnOk P w K mg base CX0 5 a.f_Term___str__ a.d_Term___str__ ["self"] (spStr K a.C_Term) := by
  have F1 : FnOk P w K mg base CX0 4 a.f_text_of a.d_text_of ["plan"] (spText K 3) := ok_text T 3
  refine T.Term___str__.ok sc_Term___str__ (fun vs H Q E h => ?_) (fun cdv A outer s H vs Q E hr h => ?_)
  · obtain ⟨p, t, rfl, _⟩ := h
    rfl
  · obtain ⟨p, t, rfl, ⟨dx, u, h1, h2, h3⟩, hd, q⟩ := h
    refine ⟨_, (pss_one (ps_ret (pe_joined1 (pe_fmt (pe_cf T.text_of F1 hr (pa_cons (pe_fld (pv 0) rfl) pa_nil)))))), ?_⟩
    refine ⟨_, rfl, p, _, dx, _, u, rfl, h1, T.c_Term, T.no_Term_tree, rfl, ?_⟩
    refine ⟨u, t, rfl, h2, h3.1, hd, by decide, fun H1 s1 => .inl ⟨_, rfl, ?_, q _ s1⟩⟩
    have := text_small h3.1 hd
    have := sl10
    omega
inductive WQ (K : PySem.W.Frag) (H : Hp) : V → Bool → Prop
  | str (z : Str) (h : z.length ≤ sizeLine) : WQ K H (.str z) (wordB (ls z))
  | oth {x : V} {ty : String} (h : TyX K H x (.type ty)) (k : kitB ty "str" = some false) : WQ K H x false
def spWordX (K : PySem.W.Frag) : Sp := fun vs H Q _ => ∃ (x : V) (b : Bool), vs = [x] ∧ WQ K H x b ∧ ∀ H', Same H H' → Q (.bl b) H'
theorem ok_wordX (T : Tx P K mg a) : FnOk P w K mg base CX0 1 a.f_is_word a.d_is_word ["value"] (spWordX K) := by
  refine T.is_word.fn.ok sc_is_word (fun vs H Q E h => ?_) (fun cdv A outer s H vs Q E hr h => ?_)
  · obtain ⟨x, b, rfl, _⟩ := h
    rfl
  · obtain ⟨x, b, rfl, hx, q⟩ := h
    have nd := sc_is_word.nd
    refine ⟨_, (pss_cons (ps_if (PW.pt (pw_or (pt_not (pt_val (cb_isi T.bi (pa_cons (pv 0) (pa_cons (gl_ty rfl T.bi.str PyProof.Rows.boot_str) pa_nil))))) (pw_or1 (pt_not (pt_chain op_le op_le pe_int (cb_len T.bi (pa_cons (pv 0) pa_nil)) (pe_gi T.v_MOST_LETTERS))))))
      (pss_one (ps_ret pe_bl)) pss_nil)
      (pss_one (ps_ret (pe_cmpR (op_eqX hr) (pe_lc (own := [("sign", 1)]) (by rfl) nd (pi_str (pv 0)) (blkOk_by (own := [("sign", 1)]) (N := ["value", "sign"]) (sc := defScope s_is_word) (by decide +kernel)) (fun _ _ _ _ _ => (pg_name (i := 1) nd rfl (Or.inl rfl))) (fun _ _ _ _ _ => pts_one (pt_cmpR (op_notInA (K := K)) (pv 1) (pe_gs T.v_LETTERS) rfl)) (fun _ _ _ _ _ => (pv 1))) (pe_lst pa_nil) (nomark _))))), ?_⟩
    refine ⟨_, rfl, ?_⟩
    cases hx with
    | oth h k => exact isiTy h k ⟨_, rfl, q H (Same.refl H)⟩
    | str z hz =>
    refine isiTy (.base (.str z)) k_ss ?_
    refine ⟨_, rfl, ?_⟩
    refine ⟨_, rfl, lenS hz ?_⟩
    refine ⟨1, _, rfl, rfl, _, rfl, ?_⟩
    have L : (z.length : Int) = ((ls z).length : Int) := by rw [ls_len]
    by_cases h1 : (1 : Int) ≤ (z.length : Int)
    · rw [decide_eq_true h1]
      refine ⟨_, 8, rfl, rfl, ?_⟩
      by_cases h2 : (z.length : Int) ≤ 8
      · refine ⟨_, rfl, ?_⟩
        rw [decide_eq_true h2]
        have hw : wordB (ls z) = (ls z).all isLB := by
          unfold wordB
          rw [decide_eq_true (show 1 ≤ (ls z).length by omega), decide_eq_true (show (ls z).length ≤ 8 by omega)]
          rfl
        refine ⟨_, rfl, z, rfl, fun D hD => ?_⟩
        refine lc_it (walk_str (z := z)) (fun i H' => ∃ acc : List V, H' D = some (.lst acc) ∧ Same H H' ∧ acc.length ≤ i ∧ acc.isEmpty = ((ls z).take i).all isLB) ⟨[], upd_same, sNew hD, Nat.le_refl _, rfl⟩ (fun _ _ _ _ => trivial) ?_ ?_
        · rintro i x H1 H1' hi ⟨acc, hA, sm, ln, em⟩ ⟨rfl, c, hc, rfl⟩
          refine ⟨rfl, _, rfl, ninSgn ?_⟩
          have hc' : (ls z)[i]? = some c := by
            show z.cps.toList[i]? = some c
            rw [Array.getElem?_toList]
            exact hc
          have tk : (ls z).take (i + 1) = (ls z).take i ++ [c] := by rw [List.take_succ, hc']; rfl
          refine ⟨_, rfl, ?_⟩
          rw [mem_let']
          cases hl : isLB c with
          | true => exact ⟨acc, hA, sm, Nat.le_succ_of_le ln, by rw [tk, List.all_append, ← em]; simp [hl]⟩
          | false =>
            have small : acc.length < sizeLine := by
              have : i < z.length := hi
              omega
            refine ⟨_, rfl, acc, hA, small, acc ++ [.str ⟨#[c]⟩], upd_same, fun b o e => ?_, by rw [List.length_append]; exact Nat.succ_le_succ ln, ?_⟩
            · rw [upd_ne (ne_of_none e hD)]
              exact sm b o e
            · rw [tk, List.all_append]
              simp [hl]
        · rintro H1 ⟨acc, hA, sm, ln, em⟩
          refine ⟨Nat.zero_le _, fun p hp => ?_⟩
          refine eqL0 (.inl (.inl (by rw [upd_ne (ne_of_none hA hp)]; exact hA))) upd_same ?_
          have : (ls z).take z.cps.size = ls z := List.take_of_length_le (by simp [ls])
          rw [em, this, ← hw]
          exact q _ (sm.trans (sNew hp))
      · refine ⟨_, rfl, ?_⟩
        rw [decide_eq_false h2]
        have hw : wordB (ls z) = false := by
          unfold wordB
          rw [decide_eq_false (show ¬ (ls z).length ≤ 8 by omega), Bool.and_false, Bool.false_and]
        rw [hw] at q
        exact q _ (fun _ _ e => e)
    · rw [decide_eq_false h1]
      have hw : wordB (ls z) = false := by
        unfold wordB
        rw [decide_eq_false (show ¬ 1 ≤ (ls z).length by omega), Bool.false_and, Bool.false_and]
      rw [hw] at q
      exact ⟨_, rfl, q _ (fun _ _ e => e)⟩
end
end Z
set_option maxRecDepth 100000
set_option maxHeartbeats 4000000
namespace Z
open PySem PySem.Spec PyProof.Rows L2
def sgOf (b : Bool) : Str := if b then " <= " else " := "
def dtext (x : Str) (t : Tr) (b : Bool) : Str := x ++ sgOf b ++ t.text
def dpair (l : List Str) : Option (Str × Tr) := match l with
  | [x, y] => if wordB (ls x) = true then (match planOf y with
    | some t => some (x, t)
    | none => none) else none
  | _ => none
def dpart (z : Str) (b : Bool) : Option (Str × Tr) := dpair (Txt.split z (sgOf b))
def dparts (z : Str) : Option (Str × Tr × Bool) := match dpart z false with
  | some p => some (p.1, p.2, false)
  | none => match dpart z true with
    | some p => some (p.1, p.2, true)
    | none => none
theorem dpair_some {l : List Str} {x : Str} {t : Tr} (h : dpair l = some (x, t)) : l = [x, t.text] ∧ Word x ∧ t.Ok ∧ t.deep ≤ 3 := by
  unfold dpair at h
  split at h
  · rename_i x' y
    split at h
    · rename_i hw
      split at h
      · rename_i u e
        cases h
        have := planOf_fine e
        rw [planOf_text e]
        exact ⟨rfl, wordB_iff.mp hw, this.1, this.2⟩
      · cases h
    · cases h
  · cases h
theorem dpart_some {z : Str} {b : Bool} {x : Str} {t : Tr} (h : dpart z b = some (x, t)) : Txt.split z (sgOf b) = [x, t.text] ∧ Word x ∧ t.Ok ∧ t.deep ≤ 3 ∧ dtext x t b = z := by
  obtain ⟨e, h1, h2, h3⟩ := dpair_some h
  refine ⟨e, h1, h2, h3, ?_⟩
  have := PySem.StrLaws.join_split z (sgOf b)
  rw [e] at this
  exact this
theorem dparts_some {z x : Str} {t : Tr} {b : Bool} (h : dparts z = some (x, t, b)) : Word x ∧ t.Ok ∧ t.deep ≤ 3 ∧ dtext x t b = z := by
  unfold dparts at h
  split at h
  · rename_i p e
    cases h
    exact (dpart_some e).2
  · split at h
    · rename_i p e
      cases h
      exact (dpart_some e).2
    · cases h
theorem no_space : ∀ t : Tr, t.Ok → ∀ c ∈ ls t.text, c ≠ 32
  | .con n, ok, c, hc => by
    rw [con_text ok] at hc
    obtain ⟨h1, h2⟩ : 0 ≤ n ∧ n ≤ 9 := ok
    have := List.mem_singleton.mp hc
    omega
  | .var w, ok, c, hc => by
    have h : isLet c := (show Word w from ok).2.2 c hc
    obtain ⟨h1, h2⟩ := h
    omega
  | .cho a b d e, ok, c, hc => by
    obtain ⟨oa, ob, od, oe⟩ : a.Ok ∧ b.Ok ∧ d.Ok ∧ e.Ok := ok
    rw [cho_text] at hc
    simp only [List.mem_cons, List.mem_append, List.not_mem_nil, or_false] at hc
    rcases hc with rfl | hc | rfl | hc | rfl | hc | rfl | hc | rfl
    · decide
    · exact no_space a oa c hc
    · decide
    · exact no_space b ob c hc
    · decide
    · exact no_space d od c hc
    · decide
    · exact no_space e oe c hc
    · decide
theorem word_space {x : Str} (h : Word x) : ∀ c ∈ ls x, c ≠ 32 := fun c hc => by
  obtain ⟨h1, h2⟩ : isLet c := h.2.2 c hc
  omega
theorem spl_skip {S q : List Nat} : ∀ {p acc : List Nat}, (∀ c ∈ p, c ≠ 32) → TL.spl (32 :: S) 0 acc (p ++ q) = TL.spl (32 :: S) 0 (acc ++ p) q
  | [], acc, _ => by rw [List.nil_append, List.append_nil]
  | c :: p, acc, h => by
    rw [List.cons_append, TL.spl_miss (TL.pre_of_head _ _ (h c (List.mem_cons_self ..))), spl_skip (fun d hd => h d (List.mem_cons_of_mem _ hd)), List.append_assoc]
    rfl
theorem sg_ls (b : Bool) : ls (sgOf b) = [32, if b then 60 else 58, 61, 32] := by cases b <;> decide +kernel
theorem split_ls (z : Str) (b : Bool) : (Txt.split z (sgOf b)).map ls = TL.spl [32, if b then 60 else 58, 61, 32] 0 [] (ls z) := by
  have h := TL.split_spl z (sgOf b) (by rw [show TL.tl (sgOf b) = ls (sgOf b) from rfl, sg_ls]; exact List.cons_ne_nil _ _) (TL.kind_ok (by cases b <;> decide +kernel))
  rw [show TL.tl (sgOf b) = ls (sgOf b) from rfl, sg_ls] at h
  exact h
theorem map_ls {l m : List Str} (h : l.map ls = m.map ls) : l = m := TL.map_tl_inj h
theorem split_own {x : Str} {t : Tr} {b : Bool} (hx : Word x) (ht : t.Ok) : Txt.split (dtext x t b) (sgOf b) = [x, t.text] := by
  refine map_ls ?_
  rw [split_ls]
  unfold dtext
  rw [ls_app, ls_app, List.append_assoc, spl_skip (word_space hx), List.nil_append, sg_ls]
  have hp : TL.pre [32, if b then 60 else 58, 61, 32] (32 :: ([if b then 60 else 58, 61, 32] ++ ls t.text)) = true := TL.pre_self [32, if b then 60 else 58, 61, 32] _
  rw [List.cons_append, TL.spl_hit hp, TL.spl_pass]
  show _ :: TL.spl _ 0 [] (ls t.text) = _
  have := spl_skip (S := [if b then 60 else 58, 61, 32]) (q := []) (acc := []) (no_space t ht)
  rw [List.append_nil] at this
  rw [this, TL.spl_nil]
  rfl
theorem split_oth {x : Str} {t : Tr} {b : Bool} (hx : Word x) (ht : t.Ok) : Txt.split (dtext x t b) (sgOf (!b)) = [dtext x t b] := by
  refine map_ls ?_
  rw [split_ls]
  unfold dtext
  rw [ls_app, ls_app, List.append_assoc, spl_skip (word_space hx), List.nil_append, sg_ls]
  rw [List.cons_append, TL.spl_miss (by cases b <;> rfl)]
  rw [show ([if b = true then 60 else 58, 61, 32] ++ ls t.text) = [if b = true then 60 else 58, 61] ++ ([32] ++ ls t.text) from rfl, spl_skip (by intro c hc; simp only [List.mem_cons, List.not_mem_nil, or_false] at hc; rcases hc with rfl | rfl <;> (try split) <;> decide)]
  rw [List.cons_append, TL.spl_miss (by
    cases h : ls t.text with
    | nil => cases b <;> rfl
    | cons c q =>
      cases hq : TL.pre [32, if (!b) = true then 60 else 58, 61, 32] (32 :: ([] ++ (c :: q))) with
      | false => rfl
      | true =>
        exfalso
        have e : (32 :: c :: q).take 4 = [32, if (!b) = true then 60 else 58, 61, 32] := eq_of_beq hq
        have : (32 : Nat) ∈ ls t.text := by
          rw [h]
          have hm : (32 : Nat) ∈ (c :: q).take 3 := by
            rw [List.take_succ_cons] at e
            injection e with e1 e2
            rw [e2]
            simp
          exact List.mem_of_mem_take hm
        exact no_space t ht 32 this rfl)]
  rw [List.nil_append]
  have := spl_skip (S := [if (!b) = true then 60 else 58, 61, 32]) (q := []) (acc := (ls x ++ [32] ++ [if b = true then 60 else 58, 61]) ++ [32]) (no_space t ht)
  rw [List.append_nil] at this
  rw [this, TL.spl_nil]
  show [_] = [ls (x ++ sgOf b ++ t.text)]
  rw [ls_app, ls_app, sg_ls]
  simp
theorem dparts_text {x : Str} {t : Tr} {b : Bool} (hx : Word x) (ht : t.Ok) (hd : t.deep ≤ 3) : dparts (dtext x t b) = some (x, t, b) := by
  have own : dpart (dtext x t b) b = some (x, t) := by
    unfold dpart
    rw [split_own hx ht]
    unfold dpair
    show (if wordB (ls x) = true then _ else none) = _
    rw [if_pos (wordB_iff.mpr hx), plan_text ht hd]
  unfold dparts
  cases b with
  | false => rw [own]
  | true =>
    have oth : dpart (dtext x t true) false = none := by
      unfold dpart
      rw [show sgOf false = sgOf (!true) from rfl, split_oth hx ht]
      rfl
    rw [oth, own]
end Z
set_option maxRecDepth 100000
set_option maxHeartbeats 4000000
namespace Z
open PySem PySem.Spec PyProof.Rows L2
section
variable {P : Program} {w : World} {K : PySem.W.Frag} {mg : Str → Option Value} {base : Heap} {a : Ad}
def spDParts (K : PySem.W.Frag) : Sp := fun vs H Q _ => ∃ x : V, vs = [x] ∧ ((∃ z : Str, x = .str z ∧ z.length + 2 ≤ sizeLine ∧ (dparts z = none → ∀ H', Same H H' → Q .non H') ∧
  ∀ y t b, dparts z = some (y, t, b) → ∀ p H', Same H H' → H' p = some (.tup [.str y, .str t.text, .bl b]) → Q (.ref p) H') ∨ (∃ ty, TyX K H x (.type ty) ∧ kitB ty "str" = some false ∧ Q .non H))
theorem ok_dparts (T : Tx P K mg a) : FnOk P w K mg base CX0 7 a.f_deed_parts a.d_deed_parts ["text"] (spDParts K) := by
  have F1 : FnOk P w K mg base CX0 1 a.f_is_word a.d_is_word ["value"] spWord := ok_word T
  have F2 : FnOk P w K mg base CX0 6 a.f_plan_of a.d_plan_of ["value"] (spPlanOf K a.C_Term) := ok_plan_of T
  refine T.deed_parts.fn.ok sc_deed_parts (fun vs H Q E h => ?_) (fun cdv A outer s H vs Q E hr h => ?_)
  · obtain ⟨x, rfl, _⟩ := h
    rfl
  · obtain ⟨x, rfl, h⟩ := h
    have nd := sc_deed_parts.nd
    have hr1 : Room 1 _ := hr.mono (by decide)
    refine ⟨_, (pss_cons (ps_if (pt_not (pt_val (cb_isi T.bi (pa_cons (pv 0) (pa_cons (gl_ty rfl T.bi.str PyProof.Rows.boot_str) pa_nil))))) (pss_one (ps_ret pe_non)) pss_nil)
      (pss_cons (ps_for PassesOwn.never rfl (pi_tup (pe_tup (pa_cons (pe_tup (pa_cons (pe_gs T.v_AT_ONCE) (pa_cons pe_bl pa_nil))) (pa_cons (pe_tup (pa_cons (pe_gs T.v_AT_THE_END) (pa_cons pe_bl pa_nil))) pa_nil)))) (pg_tup rfl (pgs_cons (pg_name (i := 1) nd rfl (Or.inl rfl)) (pgs_cons (pg_name (i := 2) nd rfl (Or.inl rfl)) pgs_nil)))
        (pss_cons (ps_set (i := 3) nd rfl (Or.inl rfl) (pe_bm PySem.F.plainAttrs_str PySem.F.slot_str_split PySem.F.type_str_split mt_split (pv 0) (pa_cons (pv 1) pa_nil)))
        (pss_one (ps_if (PW.pt (pw_and (pt_cmpR (op_eqX hr) (cb_len T.bi (pa_cons (pv 3) pa_nil)) pe_int (nomark _)) (pw_and (pt_val (pe_cf T.is_word F1 hr1 (pa_cons (pe_ix ix_A (pv 3) pe_int (fun _ _ => rfl)) pa_nil))) (pw_and1 (pt_cmp (pc_notN (pe_cf T.plan_of F2 hr (pa_cons (pe_ix ix_A (pv 3) pe_int (fun _ _ => rfl)) pa_nil))))))))
          (pss_one (ps_ret (pe_tup (pa_cons (pe_ix ix_A (pv 3) pe_int (fun _ _ => rfl)) (pa_cons (pe_ix ix_A (pv 3) pe_int (fun _ _ => rfl)) (pa_cons (pv 2) pa_nil)))))) pss_nil))))
      (pss_one (ps_ret pe_non)))), ?_⟩
    rcases h with ⟨z, rfl, hz, q0, q1⟩ | ⟨ty, ht, hk, q⟩
    · have hz1 : z.length ≤ sizeLine := by omega
      refine ⟨_, rfl, isiTy (.base (.str z)) k_ss ?_⟩
      refine ⟨_, rfl, ?_⟩
      refine ⟨by show 2 ≤ sizeLine; decide, fun p1 hp1 => ?_⟩
      refine ⟨by show 2 ≤ sizeLine; decide, fun p2 hp2 => ?_⟩
      refine ⟨by show 2 ≤ sizeLine; decide, fun p0 hp0 => ?_⟩
      have n12 : p1 ≠ p2 := ne_of_none (H := upd H p1 (.tup [V.str (sgOf false), .bl false])) upd_same hp2
      have s0 : Same H (upd (upd (upd H p1 (.tup [V.str (sgOf false), .bl false])) p2 (.tup [V.str (sgOf true), .bl true])) p0 (.tup [V.ref p1, .ref p2])) := ((sNew hp1).trans (sNew hp2)).trans (sNew hp0)
      refine ⟨p0, rfl, ⟨_, .inl (.inl upd_same)⟩, ?_⟩
      refine for_it (walk_tup (xs := [V.ref p1, .ref p2])) (fun n σ H' => ∃ (o1 o2 o3 : Option V), σ = [some (.str z), o1, o2, o3] ∧ Same H H' ∧ H' p0 = some (.tup [V.ref p1, .ref p2]) ∧ H' p1 = some (.tup [V.str (sgOf false), .bl false]) ∧ H' p2 = some (.tup [V.str (sgOf true), .bl true]) ∧
          (1 ≤ n → dpart z false = none) ∧ (2 ≤ n → dpart z true = none))
        ⟨none, none, none, rfl, s0, upd_same, (sNew hp0) _ _ ((sNew hp2) _ _ upd_same), (sNew hp0) _ _ upd_same, fun h => absurd h (by omega), fun h => absurd h (by omega)⟩ (fun n σ H' _ ⟨_, _, _, _, _, hp, _⟩ => .inl (.inl hp)) ?_ ?_
      · rintro n x σ H2 H2' hn ⟨o1, o2, o3, rfl, sm, g0, g1, g2, d1, d2⟩ ⟨rfl, hx⟩
        obtain ⟨b, p, rfl, hb, hn'⟩ : ∃ (b : Bool) (p : Addr), x = .ref p ∧ H2' p = some (.tup [V.str (sgOf b), .bl b]) ∧ n = (if b then 1 else 0) := by
          match n, hx with
          | 0, hx => cases hx; exact ⟨false, _, rfl, g1, rfl⟩
          | 1, hx => cases hx; exact ⟨true, _, rfl, g2, rfl⟩
        refine ⟨p, _, rfl, .inl (.inl hb), rfl, ?_⟩
        refine ⟨_, _, rfl, _, _, rfl, rfl, ?_⟩
        refine ⟨_, rfl, rfl, _, rfl, z, sgOf b, rfl, rfl, by cases b <;> rfl, hz, fun l hl => ?_⟩
        have s1 := sNew (o := .lst ((Txt.split z (sgOf b)).map V.str)) hl
        have few : (Txt.split z (sgOf b)).length ≤ sizeLine := Nat.le_trans (PyProof.Rows.split_le _ _) hz
        have hL : ∀ {H3 : Hp}, Same (upd H2' l (.lst ((Txt.split z (sgOf b)).map V.str))) H3 → SqL K H3 l ((Txt.split z (sgOf b)).map V.str) := fun s => .inl (.inl (s _ _ upd_same))
        have fin : ∀ {H3 : Hp} {o1 o2 o3 : Option V}, Same (upd H2' l (.lst ((Txt.split z (sgOf b)).map V.str))) H3 → dpart z b = none → ∃ o1' o2' o3', [some (V.str z), o1, o2, o3] = [some (V.str z), o1', o2', o3'] ∧ Same H H3 ∧ H3 p0 = some (HO.tup [V.ref p1, V.ref p2]) ∧ H3 p1 = some (HO.tup [V.str (sgOf false), V.bl false]) ∧ H3 p2 = some (HO.tup [V.str (sgOf true), V.bl true]) ∧ (1 ≤ n + 1 → dpart z false = none) ∧ (2 ≤ n + 1 → dpart z true = none) := fun s e => by
          refine ⟨_, _, _, rfl, (sm.trans s1).trans s, s _ _ (s1 _ _ g0), s _ _ (s1 _ _ g1), s _ _ (s1 _ _ g2), fun _ => ?_, fun h => ?_⟩
          · cases b with
            | false => exact e
            | true => exact d1 (by rw [hn']; decide)
          · cases b with
            | false => rw [hn'] at h; exact absurd h (by decide)
            | true => exact e
        refine ⟨_, rfl, lenL (hL (Same.refl _)) ?_⟩
        refine eqI ?_
        refine ⟨_, rfl, ?_⟩
        rw [List.length_map]
        by_cases h2 : (((Txt.split z (sgOf b)).length : Nat) : Int) = 2
        · rw [decide_eq_true h2]
          obtain ⟨x, y, hxy⟩ : ∃ x y, Txt.split z (sgOf b) = [x, y] := by
            match hs : Txt.split z (sgOf b), h2 with
            | [x, y], _ => exact ⟨x, y, rfl⟩
            | [], h => exact absurd h (by decide)
            | [x], h => exact absurd h (by simp)
            | x :: y :: c :: r, h => simp only [List.length_cons] at h; omega
          have lx : x.length ≤ sizeLine := Nat.le_trans (PyProof.Rows.part_short (x := z) (y := sgOf b) (by rw [hxy]; simp)) hz1
          have ly : y.length ≤ sizeLine := Nat.le_trans (PyProof.Rows.part_short (x := z) (y := sgOf b) (by rw [hxy]; simp)) hz1
          have h0 : ∀ {H3 : Hp}, Same (upd H2' l (.lst ((Txt.split z (sgOf b)).map V.str))) H3 → SqL K H3 l [V.str x, V.str y] := fun s => by
            have := hL s
            rw [hxy] at this
            exact this
          refine ⟨_, rfl, ixL (i := 0) (h0 (Same.refl _)) rfl ?_⟩
          refine ⟨x, rfl, lx, fun H3 s3 => ⟨_, rfl, ?_⟩⟩
          cases hw : wordB (ls x) with
          | false =>
            refine fin s3 ?_
            unfold dpart
            rw [hxy]
            show (if wordB (ls x) = true then _ else none) = none
            rw [hw]
            rfl
          | true =>
            refine ⟨_, rfl, ixL (i := 1) (h0 s3) rfl ?_⟩
            refine ⟨_, _, rfl, .str y ly, fun v H4 s4 got => ?_⟩
            have s34 := s3.trans s4
            refine ⟨_, rfl, ?_⟩
            cases hp : planOf y with
            | none =>
              rw [hp] at got
              obtain rfl : v = .non := got
              refine fin s34 ?_
              unfold dpart
              rw [hxy]
              show (if wordB (ls x) = true then _ else none) = none
              rw [hw, hp]
              rfl
            | some t =>
              rw [hp] at got
              rw [none_tr got]
              have hd : dpart z b = some (x, t) := by
                unfold dpart
                rw [hxy]
                show (if wordB (ls x) = true then _ else none) = _
                rw [hw, hp]
                rfl
              refine ⟨_, rfl, ixL (i := 0) (h0 s34) rfl ?_⟩
              refine ⟨_, rfl, ixL (i := 1) (h0 s34) rfl ?_⟩
              refine ⟨_, rfl, by show 3 ≤ sizeLine; decide, fun p5 hp5 => ?_⟩
              refine q1 x t b ?_ p5 _ ((((sm.trans s1).trans s34)).trans (sNew hp5)) (by rw [upd_same, planOf_text hp])
              unfold dparts
              cases b with
              | false => rw [hd]
              | true => rw [d1 (by rw [hn']; decide), hd]
        · rw [decide_eq_false h2]
          refine fin (Same.refl _) ?_
          unfold dpart dpair
          split
          · rename_i x y e
            rw [e] at h2
            exact absurd rfl h2
          · rfl
      · rintro σ H2 ⟨o1, o2, o3, rfl, sm, g0, g1, g2, d1, d2⟩
        refine q0 ?_ H2 sm
        unfold dparts
        rw [d1 (show 1 ≤ 2 by decide), d2 (show 2 ≤ 2 by decide)]
    · refine ⟨_, rfl, isiTy ht hk ?_⟩
      exact ⟨_, rfl, q⟩
end
end Z
set_option maxRecDepth 100000
set_option maxHeartbeats 4000000
namespace Z
open PySem PySem.Spec PyProof.Rows L2
theorem k_bb : kitB "bool" "bool" = some true := by decide +kernel
def dflds (x : Str) (q : Addr) (b : Bool) : List (Str × V) := [("target", .str x), ("source", .ref q), ("is_late", .bl b)]
def DeedAt (K : PySem.W.Frag) (CD CT : Addr) (H : Hp) (p : Addr) (x : Str) (t : Tr) (b : Bool) : Prop := ∃ dx q, H p = some (.ins CD dx (dflds x q b)) ∧ TermAt K CT H q t
theorem DeedAt.same {K : PySem.W.Frag} {CD CT : Addr} {H H' : Hp} {p : Addr} {x : Str} {t : Tr} {b : Bool} (e : Same H H') (h : DeedAt K CD CT H p x t b) : DeedAt K CD CT H' p x t b := by
  obtain ⟨dx, q, h1, h2⟩ := h
  exact ⟨dx, q, e _ _ h1, h2.same e⟩
theorem wq_true {K : PySem.W.Frag} {H : Hp} {x : V} (h : WQ K H x true) : ∃ s, x = .str s ∧ Word s := by
  generalize hb : true = b at h
  cases h with
  | str s h => exact ⟨s, rfl, wordB_iff.mp hb.symm⟩
  | oth h k => cases hb
theorem po_but {K : PySem.W.Frag} {C CD p dx : Addr} {H H' : Hp} {x : V} {t : Tr} (hp : H p = some (.ins CD dx [])) (b : But p H H') (h : PO K C H x (some t)) : PO K C H' x (some t) := by
  generalize hr : some t = r at h
  cases h with
  | str z h => exact .str z h
  | int n => exact .int n
  | oth h => cases hr
  | own h =>
    obtain ⟨d, u, h1, h2, h3⟩ := h
    have ne : ∀ {q : Addr} {o : HO}, H q = some o → o ≠ .ins CD dx [] → q ≠ p := fun {q o} h n z => by
      rw [z, hp] at h
      exact n (Option.some.inj h).symm
    have tk : TK H H' := ⟨fun c ys e => b c _ (ne e (by intro z; cases z)) e, fun c o u e => b c _ (ne e (by intro z; cases z)) e⟩
    exact .own ⟨d, u, b _ _ (ne h1 (by intro z; cases z)) h1, tr_tk tk _ h2, h3⟩
inductive LQ (K : PySem.W.Frag) (H : Hp) : V → Option Bool → Prop
  | bl (b : Bool) : LQ K H (.bl b) (some b)
  | oth {x : V} {ty : String} (h : TyX K H x (.type ty)) (k : kitB ty "bool" = some false) : LQ K H x none
theorem LQ.same {K : PySem.W.Frag} {H H' : Hp} {x : V} {r : Option Bool} (e : Same H H') (h : LQ K H x r) : LQ K H' x r := by
  cases h with
  | bl b => exact .bl b
  | oth h k => exact .oth (tyX_same e h) k
theorem WQ.same {K : PySem.W.Frag} {H H' : Hp} {x : V} {r : Bool} (e : Same H H') (h : WQ K H x r) : WQ K H' x r := by
  cases h with
  | str z h => exact .str z h
  | oth h k => exact .oth (tyX_same e h) k
def Flies (E : XK) (X : Addr) (H : Hp) (v : V) : Prop := ∀ d H1, Same H H1 → H1 d = none → E (.ref X) (some d) (upd H1 d (.xd [("value", v)]))
section
variable {P : Program} {w : World} {K : PySem.W.Frag} {mg : Str → Option Value} {base : Heap} {a : Ad}
def spDInit (K : PySem.W.Frag) (CD CT X : Addr) : Sp := fun vs H Q E => ∃ (p dx : Addr) (x y z : V) (wb : Bool) (r : Option Tr) (lb : Option Bool), vs = [.ref p, x, y, z] ∧ H p = some (.ins CD dx []) ∧ WQ K H x wb ∧ PO K CT H y r ∧ LQ K H z lb ∧
  (wb = false → Flies E X H x) ∧ (wb = true → r = none → Flies E X H y) ∧ (wb = true → ∀ t, r = some t → lb = none → Flies E X H z) ∧
  (∀ s t b H', x = .str s → Word s → r = some t → lb = some b → But p H H' → DeedAt K CD CT H' p s t b → Q .non H')
theorem ok_dinit (T : Tx P K mg a) : FnOk P w K mg base (L2.CX P w) 9 a.f_Deed___init__ a.d_Deed___init__ ["self", "variable", "term", "late"] (spDInit K a.C_Deed a.C_Term a.C_NoDeed) := by
  have F1 : FnOk P w K mg base CX0 1 a.f_is_word a.d_is_word ["value"] (spWordX K) := ok_wordX T
  have F2 : FnOk P w K mg base CX0 6 a.f_plan_of a.d_plan_of ["value"] (spPlanOf K a.C_Term) := ok_plan_of T
  have F3 : FnOk P w K mg base (L2.CX P w) 7 a.f_Term___init__ a.d_Term___init__ ["self", "value"] (spInit K a.C_Term a.C_NoTerm) := ok_init T
  refine T.Deed___init__.okX sc_Deed___init__ (fun vs H Q E h => ?_) (fun cdv A outer s H vs Q E hr h => ?_)
  · obtain ⟨p, dx, x, y, z, wb, r, lb, rfl, _⟩ := h
    rfl
  · obtain ⟨p, dx, x, y, z, wb, r, lb, rfl, hp, hx, hy, hz, q1, q2, q3, q4⟩ := h
    have nd := sc_Deed___init__.nd
    refine ⟨_, (pss_cons (ps_if (pt_not (pt_val (pe_cf T.is_word F1 (hr.mono (by decide)) (pa_cons (pv 1) pa_nil)))) (pss_one (ps_raiseT (takes_of rfl rfl rfl rfl) T.e_NoDeed hr (pa_cons (pv 1) pa_nil))) pss_nil)
      (pss_cons (ps_if (pt_cmp (pc_isN (pe_cf T.plan_of F2 (hr.mono (by decide)) (pa_cons (pv 2) pa_nil)))) (pss_one (ps_raiseT (takes_of rfl rfl rfl rfl) T.e_NoDeed hr (pa_cons (pv 2) pa_nil))) pss_nil)
      (pss_cons (ps_if (pt_not (pt_val (cb_isi T.bi (pa_cons (pv 3) (pa_cons (gl_ty rfl T.bi.bool PyProof.Rows.boot_bool) pa_nil))))) (pss_one (ps_raiseT (takes_of rfl rfl rfl rfl) T.e_NoDeed hr (pa_cons (pv 3) pa_nil))) pss_nil)
      (pss_cons (ps_fld (pv 0) (pv 1) rfl)
      (pss_cons (ps_fld (pv 0) (pe_make T.mk_Term F3 hr rfl T.g_Term T.b_Term___init__ .nil passL (pa_cons (pv 2) pa_nil)) rfl)
      (pss_one (ps_fld (pv 0) (pv 3) rfl))))))), ?_⟩
    refine ⟨_, rfl, x, wb, rfl, hx, fun H1 s1 => ⟨_, rfl, ?_⟩⟩
    cases wb with
    | false => exact ⟨_, rfl, x, rfl, fun d hd => q1 rfl d H1 s1 hd⟩
    | true =>
      refine ⟨_, rfl, y, r, rfl, po_same s1 hy, fun v H2 s2 got => ?_⟩
      have s12 := s1.trans s2
      refine ⟨_, rfl, ?_⟩
      cases r with
      | none =>
        obtain rfl : v = .non := got
        exact ⟨_, rfl, y, rfl, fun d hd => q2 rfl rfl d H2 s12 hd⟩
      | some t =>
        rw [none_tr got]
        have hz2 := hz.same s12
        refine ⟨_, rfl, ?_⟩
        cases hz2 with
        | oth ht hk =>
          refine isiTy ht hk ?_
          refine ⟨_, rfl, ?_⟩
          exact ⟨_, rfl, z, rfl, fun d hd => q3 rfl t rfl rfl d H2 s12 hd⟩
        | bl b =>
          refine isiTy (.base (.bl b)) k_bb ?_
          refine ⟨_, rfl, ?_⟩
          have hp2 := s12 _ _ hp
          obtain ⟨s, rfl, hw⟩ : ∃ s, x = .str s ∧ Word s := wq_true hx
          refine ⟨_, rfl, _, rfl, p, _, dx, [], rfl, hp2, T.c_Deed, T.no_Deed_target, by decide, ?_⟩
          have b3 : But p H (upd H2 p (.ins a.C_Deed dx (putF "target" (.str s) []))) := fun c o hc e => by
            rw [upd_ne hc]
            exact s12 _ _ e
          refine ⟨_, rfl, fun o d n1 n2 ne => ?_⟩
          have n0 : p ≠ o := ne_of_none upd_same n1
          have b4 : Same (upd H2 p (.ins a.C_Deed dx (putF "target" (.str s) []))) (upd (upd (upd H2 p (.ins a.C_Deed dx (putF "target" (.str s) []))) d (.own o)) o (.ins a.C_Term d [])) := fun c u hc => by
            rw [upd_ne (ne_of_none hc n1), upd_ne (ne_of_none hc n2)]
            exact hc
          refine ⟨o, d, y, some t, rfl, upd_same, po_same b4 (po_but hp b3 hy), fun t' v' H5 e but hv dp => ⟨rfl, ?_⟩, fun e => nomatch e⟩
          cases e
          have s5 : Same (upd H2 p (.ins a.C_Deed dx (putF "target" (.str s) []))) H5 := fun c u hc => but c u (ne_of_none hc n1) (b4 c u hc)
          have hp5 := s5 _ _ upd_same
          have tm : TermAt K a.C_Term H5 o t := ⟨d, v', hv, dp, po_fine hy⟩
          refine ⟨_, rfl, p, _, dx, _, rfl, hp5, T.c_Deed, T.no_Deed_source, by show 1 < 1000; decide, ?_⟩
          refine ⟨_, rfl, _, rfl, p, _, dx, _, rfl, upd_same, T.c_Deed, T.no_Deed_is_late, by show 2 < 1000; decide, ?_⟩
          refine q4 s t b _ rfl hw rfl rfl (fun c u hc e => ?_) ⟨dx, o, upd_same, ?_⟩
          · rw [upd_ne hc, upd_ne hc]
            exact s5 _ _ (b3 c u hc e)
          · obtain ⟨d', u', t1, t2, t3⟩ := tm
            have e1 : TK H5 (upd H5 p (.ins a.C_Deed dx (putF "source" (.ref o) (putF "target" (.str s) [])))) := TK.ins hp5
            have hp6 : upd H5 p (.ins a.C_Deed dx (putF "source" (.ref o) (putF "target" (.str s) []))) p = some (.ins a.C_Deed dx (putF "source" (.ref o) (putF "target" (.str s) []))) := upd_same
            exact ⟨d', u', by rw [upd_ne n0.symm, upd_ne n0.symm]; exact t1, tr_tk (e1.trans (TK.ins hp6)) t t2, t3⟩
end
end Z
set_option maxRecDepth 100000
set_option maxHeartbeats 4000000
namespace Z
open PySem PySem.Spec PyProof.Rows L2
section
variable {X : Cx} {CX : CXT} {C f : Addr} {fd : FuncData} {ps : List Str} {sp : Sp} {E : XK} {n : Nat}
structure rEqO (C : Addr) (sp : Sp) (E : XK) (x y : V) (H : Hp) (Q : VK) : Prop where
  h : ∃ a dx fs, x = .ref a ∧ H a = some (.ins C dx fs) ∧ ((∃ b dy gs, y = .ref b ∧ H b = some (.ins C dy gs)) ∨ ∃ z, y = .str z) ∧ sp [x, y] H (fun v H' => ∃ r, v = .bl r ∧ Q (.bl r) H') E
theorem op_eqOwn (F : FnOk X.prog X.w X.K X.mg X.base CX n f fd ps sp) (nf : PySem.W.notFirst X.K C (.type "str") = true) (hs : PySem.W.findIn X.K (.ref C) "__eq__" = some (some (.ref f)))
    (hf : PySem.W.isFn X.K (.ref f) = true) (hb : Binds X.K fd ps []) (hx : Passes CX X E) (hr : Room n X.A) : OpR X (compareOp .Eq) (rEqO C sp E) := by
  intro pins s σ H x y u v Q I rx ry ⟨a, dx, fs, ex, ha, hy, hsp⟩
  subst ex
  obtain rfl : u = Value.ref a := rx
  obtain ⟨mA, J, _⟩ := ins_get I.hok ha
  obtain ⟨od, J, _⟩ := J.look
  obtain ⟨m, hF⟩ := I.fr
  have hl := F.len _ _ _ _ hsp
  have rv : Vals [V.ref a, y] [Value.ref a, v] := .cons rfl (.cons ry .nil)
  have go : wpAny (model X.prog X.w) X.A (call (.ref f) [.ref a, v]) (PySem.W.CmpBack (EP X pins σ Q)) X.xe s := by
    refine wpAny_call (codeAny_mono (F.run X.A X.stack s H ⟨[.ref a, v], []⟩ [.ref a, v] [.ref a, y] _ E hr I.env0 (by
      have := hb s [.ref a, v] I.kIn (by simpa using hl)
      simpa using this) rv hsp) fun r s' hq => ?_)
    cases r with
    | error e => exact hx pins σ H s e s' I hq
    | ok fl =>
      cases fl with
      | ret w =>
        obtain ⟨z, H', I', rz, r, ez, q⟩ := I.after hq
        subst ez
        obtain rfl : w = Value.bool r := rz
        exact ⟨.bl r, H', I', rfl, q⟩
      | next => exact False.elim hq
      | brk => exact False.elim hq
      | cont => exact False.elim hq
  rcases hy with ⟨b, dy, gs, ey, hb'⟩ | ⟨z, ey⟩
  · subst ey
    obtain rfl : v = Value.ref b := ry
    obtain ⟨mB, J', _⟩ := ins_get I.hok hb'
    obtain ⟨od', J', _⟩ := J'.look
    refine PySem.W.cmp_K (op := .Eq) (tb := .ref C) hr.units0 hF I.ok.mod.kin J J'.type (by simp [PySem.W.notFirst]) hs hf go
  · subst ey
    obtain ⟨t, rfl⟩ := ry
    refine PySem.W.cmp_K (op := .Eq) (tb := .type "str") hr.units0 hF I.ok.mod.kin J (PySem.W.Looks.of_pure rfl) nf hs hf go
end
section
variable {P : Program} {w : World} {K : PySem.W.Frag} {mg : Str → Option Value} {base : Heap} {a : Ad}
def spDOf (K : PySem.W.Frag) (CD CT X : Addr) : Sp := fun vs H Q E => ∃ x : V, vs = [x] ∧ ((∃ z : Str, x = .str z ∧ z.length + 2 ≤ sizeLine ∧ (dparts z = none → Flies E X H x) ∧
  ∀ y t b, dparts z = some (y, t, b) → ∀ p H', Same H H' → DeedAt K CD CT H' p y t b → Q (.ref p) H') ∨ (∃ ty, TyX K H x (.type ty) ∧ kitB ty "str" = some false ∧ Flies E X H x))
theorem make_deed {H : Hp} {x z : V} {y : V} {wb : Bool} {r : Option Tr} {lb : Option Bool} {CD CT X o dx : Addr} {R : VK} {E : XK} (ho : H o = none) (hdx : H dx = none) (hx : WQ K H x wb) (hy : PO K CT H y r) (hz : LQ K H z lb)
    (q1 : wb = false → Flies E X H x) (q2 : wb = true → r = none → Flies E X H y) (q3 : wb = true → ∀ t, r = some t → lb = none → Flies E X H z) (q : ∀ s t b H', x = .str s → Word s → r = some t → lb = some b → Same H H' → DeedAt K CD CT H' o s t b → R .non H') :
    spDInit K CD CT X [.ref o, x, y, z] (upd (upd H dx (.own o)) o (.ins CD dx [])) R E := by
  have sm : Same H (upd (upd H dx (.own o)) o (.ins CD dx [])) := fun c u hc => by
    rw [upd_ne (ne_of_none hc ho), upd_ne (ne_of_none hc hdx)]
    exact hc
  refine ⟨o, dx, x, y, z, wb, r, lb, rfl, upd_same, WQ.same sm hx, po_same sm hy, LQ.same sm hz, fun e d H1 s1 => q1 e d H1 (sm.trans s1), fun e1 e2 d H1 s1 => q2 e1 e2 d H1 (sm.trans s1), fun e1 t e2 e3 d H1 s1 => q3 e1 t e2 e3 d H1 (sm.trans s1), fun s t b H' e1 e2 e3 e4 but da => ?_⟩
  exact q s t b H' e1 e2 e3 e4 (fun c u hc => but c u (ne_of_none hc ho) (sm c u hc)) da
theorem ok_dof (T : Tx P K mg a) : FnOk P w K mg base (L2.CX P w) 11 a.f_Deed_of a.d_Deed_of ["text"] (spDOf K a.C_Deed a.C_Term a.C_NoDeed) := by
  have F1 : FnOk P w K mg base CX0 7 a.f_deed_parts a.d_deed_parts ["text"] (spDParts K) := ok_dparts T
  have F2 : FnOk P w K mg base (L2.CX P w) 9 a.f_Deed___init__ a.d_Deed___init__ ["self", "variable", "term", "late"] (spDInit K a.C_Deed a.C_Term a.C_NoDeed) := ok_dinit T
  refine T.Deed_of.okX sc_Deed_of (fun vs H Q E h => ?_) (fun cdv A outer s H vs Q E hr h => ?_)
  · obtain ⟨x, rfl, _⟩ := h
    rfl
  · obtain ⟨x, rfl, h⟩ := h
    have nd := sc_Deed_of.nd
    refine ⟨_, (pss_cons (ps_set (i := 1) nd rfl (Or.inl rfl) (pe_cf T.deed_parts F1 (hr.mono (by decide)) (pa_cons (pv 0) pa_nil)))
      (pss_cons (ps_if (pt_cmp (pc_isN (pv 1))) (pss_one (ps_raiseT (takes_of rfl rfl rfl rfl) T.e_NoDeed hr (pa_cons (pv 0) pa_nil))) pss_nil)
      (pss_cons (ps_asg (pv 1) (pg_tup rfl (pgs_cons (pg_name (i := 2) nd rfl (Or.inl rfl)) (pgs_cons (pg_name (i := 3) nd rfl (Or.inl rfl)) (pgs_cons (pg_name (i := 4) nd rfl (Or.inl rfl)) pgs_nil)))))
      (pss_one (ps_ret (pe_makeK (n := 2) T.mk_Deed F2 hr rfl T.g_Deed T.kb_Deed___init__ passL (pa_cons (pv 2) (pa_cons (pv 3) pa_nil)) (pk_cons (pv 4) pk_nil))))))), ?_⟩
    refine ⟨_, rfl, x, rfl, ?_⟩
    rcases h with ⟨z, rfl, hz, q0, q1⟩ | ⟨ty, ht, hk, q⟩
    · refine .inl ⟨z, rfl, hz, fun e H1 s1 => ?_, fun y t b e p H1 s1 hp => ?_⟩
      · refine ⟨_, rfl, ?_⟩
        refine ⟨_, rfl, ?_⟩
        exact ⟨_, rfl, _, rfl, fun d hd => q0 e d H1 s1 hd⟩
      · have hf := dparts_some e
        refine ⟨_, rfl, ?_⟩
        refine ⟨_, rfl, ?_⟩
        refine ⟨_, rfl, p, _, rfl, .inl (.inl hp), rfl, ?_⟩
        refine ⟨_, _, rfl, _, _, rfl, _, _, rfl, rfl, ?_⟩
        refine ⟨_, rfl, _, rfl, _, rfl, rfl, rfl, fun o dx n1 n2 ne => ?_⟩
        have hl : y.length ≤ sizeLine := Nat.le_trans hf.1.2.1 (by decide)
        refine make_deed (wb := true) (r := some t) (lb := some b) n1 n2 ?_ ?_ (.bl b) (fun e => nomatch e) (fun _ e => nomatch e) (fun _ _ _ e => nomatch e) fun s' t' b' H2 e1 e2 e3 e4 s2 da => ⟨rfl, ?_⟩
        · rw [← wordB_iff.mpr hf.1]
          exact .str y hl
        · rw [← plan_text hf.2.1 hf.2.2.1]
          exact .str _ (Nat.le_trans (text_small hf.2.1 hf.2.2.1) (by decide))
        · cases e1
          cases e3
          cases e4
          exact q1 y t b e _ _ (s1.trans s2) da
    · refine .inr ⟨ty, ht, hk, ?_⟩
      refine ⟨_, rfl, ?_⟩
      refine ⟨_, rfl, ?_⟩
      exact ⟨_, rfl, x, rfl, fun d hd => q d H (Same.refl H) hd⟩
end
end Z
set_option maxRecDepth 100000
set_option maxHeartbeats 4000000
namespace Z
open PySem PySem.Spec PyProof.Rows L2
section
variable {P : Program} {w : World} {K : PySem.W.Frag} {mg : Str → Option Value} {base : Heap} {a : Ad}
theorem tyDeed (T : Tx P K mg a) {H : Hp} {p dx : Addr} {fs : List (Str × V)} (h : H p = some (.ins a.C_Deed dx fs)) : TyX K H (.ref p) (.ref a.C_Deed) := .base (.ins h T.c_Deed T.ty_Deed T.tn T.tt T.mo_Deed)
theorem eqB {K : PySem.W.Frag} {H : Hp} {Q : VK} {i j : Bool} (q : Q (.bl (decide (i = j))) H) : rEqX K (.bl i) (.bl j) H Q := ⟨.inl ⟨rfl, by simpa using q⟩⟩
def spDVar (K : PySem.W.Frag) (CD CT : Addr) : Sp := fun vs H Q _ => ∃ p x t b, vs = [.ref p] ∧ DeedAt K CD CT H p x t b ∧ Q (.str x) H
def spDLate (K : PySem.W.Frag) (CD CT : Addr) : Sp := fun vs H Q _ => ∃ p x t b, vs = [.ref p] ∧ DeedAt K CD CT H p x t b ∧ Q (.bl b) H
def spDTerm (K : PySem.W.Frag) (CD CT : Addr) : Sp := fun vs H Q _ => ∃ p x t b, vs = [.ref p] ∧ DeedAt K CD CT H p x t b ∧ ∀ q, TermAt K CT H q t → Q (.ref q) H
theorem ok_dvar (T : Tx P K mg a) : FnOk P w K mg base CX0 1 a.f_Deed_variable a.d_Deed_variable ["self"] (spDVar K a.C_Deed a.C_Term) := by
  refine T.Deed_variable.ok sc_Deed_variable (fun vs H Q E h => ?_) (fun cdv A outer s H vs Q E hr h => ?_)
  · obtain ⟨p, x, t, b, rfl, _⟩ := h
    rfl
  · obtain ⟨p, x, t, b, rfl, ⟨dx, q, h1, h2⟩, k⟩ := h
    exact ⟨_, pss_one (ps_ret (pe_fld (pv 0) rfl)), _, rfl, p, _, dx, _, _, rfl, h1, T.c_Deed, T.no_Deed_target, rfl, k⟩
theorem ok_dlate (T : Tx P K mg a) : FnOk P w K mg base CX0 1 a.f_Deed_late a.d_Deed_late ["self"] (spDLate K a.C_Deed a.C_Term) := by
  refine T.Deed_late.ok sc_Deed_late (fun vs H Q E h => ?_) (fun cdv A outer s H vs Q E hr h => ?_)
  · obtain ⟨p, x, t, b, rfl, _⟩ := h
    rfl
  · obtain ⟨p, x, t, b, rfl, ⟨dx, q, h1, h2⟩, k⟩ := h
    exact ⟨_, pss_one (ps_ret (pe_fld (pv 0) rfl)), _, rfl, p, _, dx, _, _, rfl, h1, T.c_Deed, T.no_Deed_is_late, rfl, k⟩
theorem ok_dterm (T : Tx P K mg a) : FnOk P w K mg base CX0 1 a.f_Deed_term a.d_Deed_term ["self"] (spDTerm K a.C_Deed a.C_Term) := by
  refine T.Deed_term.ok sc_Deed_term (fun vs H Q E h => ?_) (fun cdv A outer s H vs Q E hr h => ?_)
  · obtain ⟨p, x, t, b, rfl, _⟩ := h
    rfl
  · obtain ⟨p, x, t, b, rfl, ⟨dx, q, h1, h2⟩, k⟩ := h
    exact ⟨_, pss_one (ps_ret (pe_fld (pv 0) rfl)), _, rfl, p, _, dx, _, _, rfl, h1, T.c_Deed, T.no_Deed_source, rfl, k q h2⟩
def spDDel (K : PySem.W.Frag) (CD CT : Addr) : Sp := fun vs H Q _ => ∃ p x t b, vs = [.ref p] ∧ DeedAt K CD CT H p x t b ∧ Word x ∧ ∀ q H', Same H H' → DeedAt K CD CT H' q x t true → Q (.ref q) H'
theorem ok_ddel (T : Tx P K mg a) : FnOk P w K mg base CX0 11 a.f_Deed_delayed a.d_Deed_delayed ["self"] (spDDel K a.C_Deed a.C_Term) := by
  have F2 : FnOk P w K mg base (L2.CX P w) 9 a.f_Deed___init__ a.d_Deed___init__ ["self", "variable", "term", "late"] (spDInit K a.C_Deed a.C_Term a.C_NoDeed) := ok_dinit T
  refine T.Deed_delayed.ok sc_Deed_delayed (fun vs H Q E h => ?_) (fun cdv A outer s H vs Q E hr h => ?_)
  · obtain ⟨p, x, t, b, rfl, _⟩ := h
    rfl
  · obtain ⟨p, x, t, b, rfl, ⟨dx, q, h1, h2⟩, hw, k⟩ := h
    refine ⟨_, pss_one (ps_ret (pe_makeK (n := 2) T.mk_Deed F2 hr rfl T.g_Deed T.kb_Deed___init__ passL (pa_cons (pe_fld (pv 0) rfl) (pa_cons (pe_fld (pv 0) rfl) pa_nil)) (pk_cons pe_bl pk_nil))), ?_⟩
    refine ⟨_, rfl, p, _, dx, _, _, rfl, h1, T.c_Deed, T.no_Deed_target, rfl, ?_⟩
    refine ⟨_, rfl, p, _, dx, _, _, rfl, h1, T.c_Deed, T.no_Deed_source, rfl, ?_⟩
    refine ⟨rfl, rfl, fun o d n1 n2 ne => ?_⟩
    refine make_deed (wb := true) (r := some t) (lb := some true) n1 n2 ?_ (.own h2) (.bl true) (fun e => nomatch e) (fun _ e => nomatch e) (fun _ _ _ e => nomatch e) fun s' t' b' H2 e1 e2 e3 e4 s2 da => ⟨rfl, ?_⟩
    · rw [← wordB_iff.mpr hw]
      exact .str x (Nat.le_trans hw.2.1 (by decide))
    · cases e1
      cases e3
      cases e4
      exact k _ _ s2 da
def spDStr (K : PySem.W.Frag) (CD CT : Addr) : Sp := fun vs H Q _ => ∃ p x t b, vs = [.ref p] ∧ DeedAt K CD CT H p x t b ∧ Word x ∧ t.deep ≤ 3 ∧ ∀ H', Same H H' → Q (.str (dtext x t b)) H'
theorem ok_dstr (T : Tx P K mg a) : FnOk P w K mg base CX0 7 a.f_Deed___str__ a.d_Deed___str__ ["self"] (spDStr K a.C_Deed a.C_Term) := by
  have F1 : FnOk P w K mg base CX0 5 a.f_Term___str__ a.d_Term___str__ ["self"] (spStr K a.C_Term) := ok_str T
  refine T.Deed___str__.ok sc_Deed___str__ (fun vs H Q E h => ?_) (fun cdv A outer s H vs Q E hr h => ?_)
  · obtain ⟨p, x, t, b, rfl, _⟩ := h
    rfl
  · obtain ⟨p, x, t, b, rfl, ⟨dx, q, h1, h2⟩, hw, hd, k⟩ := h
    have nd := sc_Deed___str__.nd
    refine ⟨_, (pss_cons (ps_set (i := 1) nd rfl (Or.inl rfl) (pe_ifExp (pt_val (pe_fld (pv 0) rfl)) (pe_gs T.v_AT_THE_END) (pe_gs T.v_AT_ONCE)))
      (pss_one (ps_ret (pe_joined (PJ.cons (pe_fmt (pe_fld (pv 0) rfl)) (PJ.cons (pe_fmt (pv 1)) (PJ.cons (pe_fmtO F1 T.m_Term___str__.at_ T.m_Term___str__.fn T.fm_Term T.mo_Term T.b_Term___str__ pass0 hr (pe_fld (pv 0) rfl)) PJ.nil))))))), ?_⟩
    have hok : t.Ok := by obtain ⟨_, _, _, _, f⟩ := h2; exact f.1
    have lx : x.length ≤ 8 := hw.2.1
    have lt := text_small hok hd
    have sl := sl10
    have ls_ : ∀ b, (sgOf b).length = 4 := by decide +kernel
    have emp : ∀ y : Str, Str.empty ++ y = y := fun y => str_ext (by rw [ls_app]; rfl)
    have fin : ∀ b', b' = b → (tJs [tFmt (tFld K (tVar 0) "target"), tFmt (tVar 1), tFmtO a.C_Term (spStr K a.C_Term) E0 (tFld K (tVar 0) "source")] Str.empty [some (V.ref p), some (V.str (sgOf b'))] H fun out H1 => Q (.str out) H1) := by
      intro b' eb
      subst eb
      have l4 := ls_ b'
      refine ⟨_, rfl, p, _, dx, _, _, rfl, h1, T.c_Deed, T.no_Deed_target, rfl, .inl ⟨x, rfl, by omega, x, rfl, by rw [emp]; omega, ?_⟩⟩
      refine ⟨_, rfl, .inl ⟨sgOf b', rfl, by omega, _, rfl, by rw [emp, len_app]; omega, ?_⟩⟩
      have i1 := h2
      obtain ⟨e1, u1, z1, _⟩ := i1
      refine ⟨_, rfl, p, _, dx, _, _, rfl, h1, T.c_Deed, T.no_Deed_source, rfl, q, _, _, rfl, z1, q, t, rfl, h2, hd, fun H' s' => ⟨_, rfl, _, rfl, by rw [emp, len_app, len_app]; omega, ?_⟩⟩
      rw [emp]
      exact k H' s'
    refine ⟨_, rfl, p, _, dx, _, _, rfl, h1, T.c_Deed, T.no_Deed_is_late, rfl, b, rfl, ?_⟩
    cases b with
    | true => exact fin true rfl
    | false => exact fin false rfl
def spDEq (K : PySem.W.Frag) (CD CT : Addr) : Sp := fun vs H Q _ => ∃ p x t b y, vs = [.ref p, y] ∧ DeedAt K CD CT H p x t b ∧ ((∃ q x' t' b', y = .ref q ∧ DeedAt K CD CT H q x' t' b' ∧ Q (.bl (decide (x = x') && (decide (b = b') && decide (t = t')))) H) ∨ (∃ z, y = .str z ∧ Q (.bl false) H))
theorem ok_deq (T : Tx P K mg a) : FnOk P w K mg base CX0 3 a.f_Deed___eq__ a.d_Deed___eq__ ["self", "other"] (spDEq K a.C_Deed a.C_Term) := by
  have F1 : FnOk P w K mg base CX0 1 a.f_Term___eq__ a.d_Term___eq__ ["self", "other"] (spEqT K a.C_Term) := ok_eq T
  refine T.Deed___eq__.ok sc_Deed___eq__ (fun vs H Q E h => ?_) (fun cdv A outer s H vs Q E hr h => ?_)
  · obtain ⟨p, x, t, b, y, rfl, _⟩ := h
    rfl
  · obtain ⟨p, x, t, b, y, rfl, ⟨dx, q, h1, h2⟩, h⟩ := h
    refine ⟨_, (pss_cons (ps_if (pt_not (pt_val (cb_isi T.bi (pa_cons (pv 1) (pa_cons (pe_gr T.g_Deed) pa_nil))))) (pss_one (ps_ret pe_bl)) pss_nil)
      (pss_one (ps_ret (pe_and (pe_cmpR (op_eqX hr) (pe_fld (pv 0) rfl) (pe_fld (pv 1) rfl) (nomark _)) (pe_and (pe_cmpR (op_eqX hr) (pe_fld (pv 0) rfl) (pe_fld (pv 1) rfl) (nomark _)) (pe_one (pe_cmpR (op_eqOwn F1 T.nf_Term T.m_Term___eq__.at_ T.m_Term___eq__.fn T.b_Term___eq__ pass0 (hr.mono (by decide))) (pe_fld (pv 0) rfl) (pe_fld (pv 1) rfl) (nomark _)))))))), ?_⟩
    rcases h with ⟨r, x', t', b', rfl, ⟨dy, q', g1, g2⟩, k⟩ | ⟨z, rfl, k⟩
    · refine ⟨_, rfl, isiOwn (tyDeed T g1) T.kit_Deed ?_⟩
      refine ⟨_, rfl, ?_⟩
      refine ⟨_, rfl, p, _, dx, _, _, rfl, h1, T.c_Deed, T.no_Deed_target, rfl, ?_⟩
      refine ⟨_, rfl, r, _, dy, _, _, rfl, g1, T.c_Deed, T.no_Deed_target, rfl, ?_⟩
      refine eqS ?_
      refine ⟨_, rfl, ?_⟩
      cases hx : decide (x = x') with
      | false => rw [hx] at k; exact k
      | true =>
        rw [hx] at k
        refine ⟨_, rfl, p, _, dx, _, _, rfl, h1, T.c_Deed, T.no_Deed_is_late, rfl, ?_⟩
        refine ⟨_, rfl, r, _, dy, _, _, rfl, g1, T.c_Deed, T.no_Deed_is_late, rfl, ?_⟩
        refine eqB ?_
        refine ⟨_, rfl, ?_⟩
        cases hb : decide (b = b') with
        | false => rw [hb] at k; exact k
        | true =>
          rw [hb] at k
          refine ⟨_, rfl, p, _, dx, _, _, rfl, h1, T.c_Deed, T.no_Deed_source, rfl, ?_⟩
          refine ⟨_, rfl, r, _, dy, _, _, rfl, g1, T.c_Deed, T.no_Deed_source, rfl, ?_⟩
          have i1 := h2
          have i2 := g2
          obtain ⟨e1, u1, z1, _⟩ := i1
          obtain ⟨e2, u2, z2, _⟩ := i2
          exact ⟨q, _, _, rfl, z1, .inl ⟨q', _, _, rfl, z2⟩, q, q', t, t', rfl, h2, g2, _, rfl, k⟩
    · refine ⟨_, rfl, isiOwn (.base (.str z)) T.kit_Deed_str ?_⟩
      exact ⟨_, rfl, k⟩
end
end Z
set_option maxRecDepth 100000
set_option maxHeartbeats 4000000
namespace Z
open PySem PySem.Spec PyProof.Rows L2
theorem But.tr {K : PySem.W.Frag} {l : Addr} {H H' : Hp} (b : But l H H') (h : PoolAt H l) {t : Tr} {v : V} (d : Dp K H v t.d) : Dp K H' v t.d := by
  obtain ⟨p, q, h1, _⟩ := h
  exact tr_tk (b.tk h1) t d
theorem But.trs {K : PySem.W.Frag} {l : Addr} {H H' : Hp} (b : But l H H') (h : PoolAt H l) {ts : List Tr} {vs : List V} (d : DpAll K H vs (ts.map Tr.d)) : DpAll K H' vs (ts.map Tr.d) := by
  obtain ⟨p, q, h1, _⟩ := h
  exact dpAll_tk (b.tk h1) d
section
variable {P : Program} {w : World} {K : PySem.W.Frag} {mg : Str → Option Value} {base : Heap} {a : Ad}
def spTree (K : PySem.W.Frag) (n : Nat) : Sp := fun vs H Q _ => ∃ (l pw pd : Addr) (w1 w2 w3 : Str) (e : Int), vs = [.ref l, .ref pw, .ref pd, .int (n : Nat)] ∧ 0 ≤ e ∧ e ≤ 9 ∧ PoolAt H l ∧ pw ≠ l ∧ pd ≠ l ∧ H pw = some (.lst [.str w1, .str w2, .str w3]) ∧ H pd = some (.lst [.int 0, .int e]) ∧ Short w1 ∧ Short w2 ∧ Short w3 ∧ 1 ≤ n ∧
  ∀ (v : V) (t : Tr) H', But l H H' → PoolAt H' l → Dp K H' v t.d → t.Ok → t.deep ≤ n → Q v H'
theorem ok_tree (T : Tx P K mg a) : ∀ n : Nat, FnOk P w K mg base CX0 (n + 3) a.f__law_tree a.d__law_tree ["pool", "words", "digits", "deep"] (spTree K n)
  | 0 => fnNo fun vs H Q E ⟨_, _, _, _, _, _, _, _, _, _, _, _, _, _, _, _, _, _, h, _⟩ => by omega
  | n + 1 => by
    have IH : FnOk P w K mg base CX0 (n + 3) a.f__law_tree a.d__law_tree ["pool", "words", "digits", "deep"] (spTree K n) := ok_tree T n
    have F1 : FnOk P w K mg base CX0 1 a.f__law_take a.d__law_take ["pool", "bound"] spTake := ok_take T
    have F2 : FnOk P w K mg base CX0 2 a.f__law_one a.d__law_one ["pool", "things"] (spOne K) := ok_one T
    refine T._law_tree.fn.ok sc__law_tree (fun vs H Q E h => ?_) (fun cdv A outer s H vs Q E hr h => ?_)
    · obtain ⟨l, pw, pd, w1, w2, w3, e, rfl, _⟩ := h
      rfl
    · obtain ⟨l, pw, pd, w1, w2, w3, e, rfl, e0, e9, hP, nw, ndl, hw, hd, s1, s2, s3, hn, k⟩ := h
      have nd := sc__law_tree.nd
      have hr1 : Room 1 _ := hr.mono (by omega)
      have hr2 : Room 2 _ := hr.mono (by omega)
      refine ⟨_, (pss_cons (ps_if (PW.pt (pw_and (pt_cmpR op_gt (pv 3) pe_int (nomark _)) (pw_and1 (pt_cmpR (op_eqX hr) (pe_cf T._law_take F1 hr1 (pa_cons (pv 0) (pa_cons pe_int pa_nil))) pe_int (nomark _)))))
          (pss_one (ps_ret (cb_tuple T.bi (pa_cons (pe_lc (own := [("part", 4)]) (by rfl) nd (pi_range1 rfl T.bi.range (pa_cons pe_int pa_nil)) (blkOk_by (own := [("part", 4)]) (N := ["pool", "words", "digits", "deep", "part"]) (sc := defScope s__law_tree) (by decide +kernel)) (fun _ _ _ _ _ => (pg_name (i := 4) nd rfl (Or.inl rfl))) (fun _ _ _ _ _ => pts_nil) (fun _ _ _ _ _ => (pe_cf T._law_tree IH hr (pa_cons (pv 0) (pa_cons (pv 1) (pa_cons (pv 2) (pa_cons (pe_op op_sub (pv 3) pe_int) pa_nil))))))) pa_nil)))) pss_nil)
        (pss_cons (ps_if (PW.pt (pw_and (pt_cmpR (op_neX hr) (pv 2) (pe_lst pa_nil) (nomark _)) (pw_and1 (pt_cmpR (op_eqX hr) (pe_cf T._law_take F1 hr1 (pa_cons (pv 0) (pa_cons pe_int pa_nil))) pe_int (nomark _)))))
          (pss_one (ps_ret (pe_cf T._law_one F2 hr2 (pa_cons (pv 0) (pa_cons (pv 2) pa_nil))))) pss_nil)
        (pss_one (ps_ret (pe_cf T._law_one F2 hr2 (pa_cons (pv 0) (pa_cons (pv 1) pa_nil))))))), ?_⟩
      refine ⟨_, rfl, _, _, rfl, rfl, _, rfl, ?_⟩
      by_cases hn1 : (1 : Int) < ((n + 1 : Nat) : Int)
      · rw [decide_eq_true hn1]
        refine ⟨_, rfl, l, 3, rfl, hP, by decide, by decide, fun r H1 b1 P1 r0 r1 => ?_⟩
        refine eqI ?_
        refine ⟨_, rfl, ?_⟩
        by_cases hz : r = 0
        · rw [decide_eq_true hz]
          refine ⟨4, rfl, by decide, by decide, fun D nD => ?_⟩
          have nDl := P1.ne nD
          refine lc_it (walk_range (lo := 0) (n := (4 : Int).toNat)) (fun i H' => PoolAt H' l ∧ But l H H' ∧ ∃ (us : List V) (ts : List Tr), H' D = some (.lst us) ∧ DpAll K H' us (ts.map Tr.d) ∧ ts.length = i ∧ ∀ t ∈ ts, t.Ok ∧ t.deep ≤ n)
            ⟨P1.upd nDl, But.fr2 b1 nDl.symm nD b1, [], [], upd_same, .nil, rfl, fun y hy => nomatch hy⟩ (fun _ _ _ _ => trivial) ?_ ?_
          · rintro i x H2 H2' hi ⟨Pz, bz, us, ts, hA, hD, lt, at_⟩ ⟨rfl, rfl⟩
            have hi' : i < 4 := hi
            refine ⟨rfl, _, rfl, _, rfl, _, rfl, _, rfl, _, _, rfl, rfl, ?_⟩
            refine ⟨l, pw, pd, w1, w2, w3, e, ?_, e0, e9, Pz, nw, ndl, bz _ _ nw hw, bz _ _ ndl hd, s1, s2, s3, by omega, fun v t H3 b3 P3 hv ok hdp => ?_⟩
            · show [V.ref l, .ref pw, .ref pd, .int (((n + 1 : Nat) : Int) - 1)] = _
              rw [show ((n + 1 : Nat) : Int) - 1 = (n : Int) by omega]
            · have hA3 := b3 _ _ nDl.symm hA
              have ul : us.length < sizeLine := by
                have := DpAll.length hD
                rw [List.length_map] at this
                have := sl10
                omega
              have tkk : TK H3 (upd H3 D (.lst (us ++ [v]))) := TK.lst hA3
              refine ⟨us, hA3, ul, P3.upd nDl, But.fr2 b1 nDl.symm nD (bz.trans b3), us ++ [v], ts ++ [t], upd_same, ?_, by rw [List.length_append, lt]; rfl, snoc_all at_ ⟨ok, hdp⟩⟩
              exact dpAll_tk (ts := ts ++ [t]) tkk (by rw [List.map_append]; exact DpAll.app (b3.trs Pz hD) (.cons hv .nil))
          · rintro H2 ⟨P2, b2, us, ts, hA, hD, lt, at_⟩
            refine tupL (.inl (.inl hA)) fun p H3 n3 s3' hp => ?_
            match ts, lt with
            | [t1, t2, t3, t4], _ =>
              have a1 := at_ t1 (by simp)
              have a2 := at_ t2 (by simp)
              have a3 := at_ t3 (by simp)
              have a4 := at_ t4 (by simp)
              have hD' : DpAll K H3 us [t1.d, t2.d, t3.d, t4.d] := dpAll_same s3' hD
              refine k _ (.cho t1 t2 t3 t4) _ (b2.trans (But.same s3' l)) (P2.same s3') (.tup (.inl (.inl hp)) hD') ⟨a1.1, a2.1, a3.1, a4.1⟩ ?_
              show 1 + max (max t1.deep t2.deep) (max t3.deep t4.deep) ≤ n + 1
              omega
        · rw [decide_eq_false hz]
          refine ⟨_, rfl, Nat.zero_le _, fun pe ne => ?_⟩
          have hdX := b1 _ _ ndl hd
          have hwX := b1 _ _ nw hw
          refine neL0 (.inl (.inl (by rw [upd_ne (ne_of_none hdX ne)]; exact hdX))) upd_same ?_
          refine ⟨_, rfl, ?_⟩
          refine ⟨_, rfl, l, 3, rfl, (P1).upd ((P1).ne ne), by decide, by decide, fun r HY bY PY r0 r1 => ?_⟩
          have bA := ((b1).trans (But.same (sNew ne) l)).trans bY
          refine eqI ?_
          refine ⟨_, rfl, ?_⟩
          by_cases hz : r = 0
          · rw [decide_eq_true hz]
            refine ⟨_, rfl, _, rfl, l, _, rfl, PY, .inl ⟨pd, _, rfl, ndl, .inl (.inl (bA _ _ ndl hd)), by simp, by show 2 < 1000; decide, fun i y HZ bZ PZ hy => ?_⟩⟩
            obtain ⟨m, rfl, m0, m1⟩ : ∃ m : Int, y = .int m ∧ 0 ≤ m ∧ m ≤ 9 := by
              have := List.mem_of_getElem? hy
              simp only [List.mem_cons, List.not_mem_nil, or_false] at this
              rcases this with rfl | rfl <;> exact ⟨_, rfl, by omega, by omega⟩
            exact k _ (.con m) _ (bA.trans bZ) PZ (.int m) ⟨m0, by omega⟩ (show 1 ≤ n + 1 by omega)
          · rw [decide_eq_false hz]
            refine ⟨_, rfl, _, rfl, l, _, rfl, PY, .inl ⟨pw, _, rfl, nw, .inl (.inl (bA _ _ nw hw)), by simp, by show 3 < 1000; decide, fun i y HZ bZ PZ hy => ?_⟩⟩
            obtain ⟨m, rfl, sm⟩ : ∃ m : Str, y = .str m ∧ Short m := by
              have := List.mem_of_getElem? hy
              simp only [List.mem_cons, List.not_mem_nil, or_false] at this
              rcases this with rfl | rfl | rfl
              · exact ⟨_, rfl, s1⟩
              · exact ⟨_, rfl, s2⟩
              · exact ⟨_, rfl, s3⟩
            exact k _ (.var m) _ (bA.trans bZ) PZ (.str m) sm.word (show 1 ≤ n + 1 by omega)
      · rw [decide_eq_false hn1]
        have b0 : But l H H := But.refl _ _
        refine ⟨_, rfl, Nat.zero_le _, fun pe ne => ?_⟩
        have hdX := b0 _ _ ndl hd
        have hwX := b0 _ _ nw hw
        refine neL0 (.inl (.inl (by rw [upd_ne (ne_of_none hdX ne)]; exact hdX))) upd_same ?_
        refine ⟨_, rfl, ?_⟩
        refine ⟨_, rfl, l, 3, rfl, (hP).upd ((hP).ne ne), by decide, by decide, fun r HY bY PY r0 r1 => ?_⟩
        have bA := ((b0).trans (But.same (sNew ne) l)).trans bY
        refine eqI ?_
        refine ⟨_, rfl, ?_⟩
        by_cases hz : r = 0
        · rw [decide_eq_true hz]
          refine ⟨_, rfl, _, rfl, l, _, rfl, PY, .inl ⟨pd, _, rfl, ndl, .inl (.inl (bA _ _ ndl hd)), by simp, by show 2 < 1000; decide, fun i y HZ bZ PZ hy => ?_⟩⟩
          obtain ⟨m, rfl, m0, m1⟩ : ∃ m : Int, y = .int m ∧ 0 ≤ m ∧ m ≤ 9 := by
            have := List.mem_of_getElem? hy
            simp only [List.mem_cons, List.not_mem_nil, or_false] at this
            rcases this with rfl | rfl <;> exact ⟨_, rfl, by omega, by omega⟩
          exact k _ (.con m) _ (bA.trans bZ) PZ (.int m) ⟨m0, by omega⟩ (show 1 ≤ n + 1 by omega)
        · rw [decide_eq_false hz]
          refine ⟨_, rfl, _, rfl, l, _, rfl, PY, .inl ⟨pw, _, rfl, nw, .inl (.inl (bA _ _ nw hw)), by simp, by show 3 < 1000; decide, fun i y HZ bZ PZ hy => ?_⟩⟩
          obtain ⟨m, rfl, sm⟩ : ∃ m : Str, y = .str m ∧ Short m := by
            have := List.mem_of_getElem? hy
            simp only [List.mem_cons, List.not_mem_nil, or_false] at this
            rcases this with rfl | rfl | rfl
            · exact ⟨_, rfl, s1⟩
            · exact ⟨_, rfl, s2⟩
            · exact ⟨_, rfl, s3⟩
          exact k _ (.var m) _ (bA.trans bZ) PZ (.str m) sm.word (show 1 ≤ n + 1 by omega)
end
end Z
set_option maxRecDepth 100000
set_option maxHeartbeats 4000000
namespace Z
open PySem PySem.Spec PyProof.Rows L2
theorem lk1 {m f : Str} {v : V} (h : (m == f) = false := by decide) : List.lookup m [(f, v)] = none := by simp [List.lookup, h]
theorem join_text2 (a b c e : Tr) : ("(" : Str) ++ a.text ++ "=" ++ b.text ++ "?" ++ c.text ++ ":" ++ e.text ++ ")" = (Tr.cho a b c e).text := by
  rw [← join_text]
  apply str_ext
  simp only [ls_app]
  have h0 : ls Str.empty = [] := rfl
  rw [h0, List.nil_append]
section
variable {P : Program} {w : World} {K : PySem.W.Frag} {mg : Str → Option Value} {base : Heap} {a : Ad}
theorem ok_ltext (T : Tx P K mg a) : ∀ n : Nat, FnOk P w K mg base CX0 (n + 1) a.f__law_tree_text a.d__law_tree_text ["tree"] (spText K n)
  | 0 => fnNo fun vs H Q E ⟨v, t, _, _, _, h, _⟩ => by
    have := deep_pos t
    omega
  | n + 1 => by
    have IH : FnOk P w K mg base CX0 (n + 1) a.f__law_tree_text a.d__law_tree_text ["tree"] (spText K n) := ok_ltext T n
    refine T._law_tree_text.fn.ok sc__law_tree_text (fun vs H Q E h => ?_) (fun cdv A outer s H vs Q E hr h => ?_)
    · obtain ⟨v, t, rfl, _⟩ := h
      rfl
    · obtain ⟨v, t, rfl, hv, ok, hd, hn, q⟩ := h
      have nd := sc__law_tree_text.nd
      refine ⟨_, (pss_cons (ps_if (pt_val (cb_isi T.bi (pa_cons (pv 0) (pa_cons (gl_ty rfl T.bi.tuple PyProof.Rows.boot_tuple) pa_nil))))
        (pss_cons (ps_asg (pe_lc (own := [("part", 5)]) (by rfl) nd (pi_tup (pv 0)) (blkOk_by (own := [("part", 5)]) (N := ["tree", "near", "far", "yes", "no", "part"]) (sc := defScope s__law_tree_text) (by decide +kernel)) (fun _ _ _ _ _ => (pg_name (i := 5) nd rfl (Or.inl rfl))) (fun _ _ _ _ _ => pts_nil) (fun _ _ _ _ _ => (pe_cf T._law_tree_text IH hr (pa_cons (pv 5) pa_nil)))) (pg_unl rfl (pgs_cons (pg_name (i := 1) nd rfl (Or.inl rfl)) (pgs_cons (pg_name (i := 2) nd rfl (Or.inl rfl)) (pgs_cons (pg_name (i := 3) nd rfl (Or.inl rfl)) (pgs_cons (pg_name (i := 4) nd rfl (Or.inl rfl)) pgs_nil))))))
          (pss_one (ps_ret (pe_op op_addA (pe_op op_addA (pe_op op_addA (pe_op op_addA (pe_op op_addA (pe_op op_addA (pe_op op_addA (pe_op op_addA pe_str (pv 1)) pe_str) (pv 2)) pe_str) (pv 3)) pe_str) (pv 4)) pe_str)))) pss_nil)
        (pss_one (ps_ret (cb_str T.bi (pa_cons (pv 0) pa_nil))))), ?_⟩
      refine ⟨_, rfl, isiTr hv ?_⟩
      refine ⟨_, rfl, ?_⟩
      cases t with
      | con m =>
        obtain rfl := tr_con hv
        exact ⟨_, rfl, strI (int_small ok) (q _ fun _ _ e => e)⟩
      | var x =>
        obtain rfl := tr_var hv
        exact ⟨_, rfl, strS (q _ fun _ _ e => e)⟩
      | cho a1 b1 c1 e1 =>
        obtain ⟨p, v1, v2, v3, v4, rfl, sq, h1, h2, h3, h4⟩ := tr_cho hv
        refine ⟨_, rfl, p, rfl, ⟨_, sq⟩, fun D hD => ?_⟩
        refine lc_it (walk_tup (xs := [v1, v2, v3, v4])) (fun i H' => H' D = some (.lst (([a1, b1, c1, e1].take i).map fun t => V.str t.text)) ∧ Same H H') ⟨upd_same, sNew hD⟩ (fun _ _ _ ⟨_, sm⟩ => SqT.same sm sq) ?_ ?_
        · rintro i x H1 H1' hi ⟨hA, sm⟩ ⟨rfl, hx⟩
          obtain ⟨t, ht, hdt⟩ := get4 (K := K) (H := H) hx h1 h2 h3 h4
          refine ⟨rfl, _, rfl, x, t, rfl, tr_same sm hdt, kid_ok ht ok, by have := kid_deep ht; omega, by omega, fun H2 s2 => ?_⟩
          have hi' : i < 4 := hi
          refine ⟨_, s2 _ _ hA, ?_, ?_, sUpd hD (sm.trans s2)⟩
          · rw [List.length_map, List.length_take]
            exact Nat.lt_of_le_of_lt (Nat.min_le_left _ _) (Nat.lt_trans hi' (by decide))
          · rw [upd_same, List.take_succ, ht, List.map_append]
            rfl
        · rintro H1 ⟨hA, sm⟩
          refine ⟨D, _, rfl, .inl (.inl hA), rfl, _, _, rfl, _, _, rfl, _, _, rfl, _, _, rfl, rfl, ?_⟩
          obtain ⟨oa, ob, oc, oe⟩ : a1.Ok ∧ b1.Ok ∧ c1.Ok ∧ e1.Ok := ok
          have hdd : (Tr.cho a1 b1 c1 e1).deep = 1 + max (max a1.deep b1.deep) (max c1.deep e1.deep) := rfl
          have t1 := text_small oa (by omega)
          have t2 := text_small ob (by omega)
          have t3 := text_small oc (by omega)
          have t4 := text_small oe (by omega)
          have k1 : ("(" : Str).length = 1 := by decide +kernel
          have k2 : ("=" : Str).length = 1 := by decide +kernel
          have k3 : ("?" : Str).length = 1 := by decide +kernel
          have k4 : (":" : Str).length = 1 := by decide +kernel
          have k5 : (")" : Str).length = 1 := by decide +kernel
          have sl := sl10
          refine ⟨_, rfl, addS (by first | omega | (simp only [len_app]; omega)) (addS (by first | omega | (simp only [len_app]; omega)) ⟨_, rfl, addS (by first | omega | (simp only [len_app]; omega)) (addS (by first | omega | (simp only [len_app]; omega)) ⟨_, rfl, addS (by first | omega | (simp only [len_app]; omega)) (addS (by first | omega | (simp only [len_app]; omega)) ⟨_, rfl, addS (by first | omega | (simp only [len_app]; omega)) (addS (by first | omega | (simp only [len_app]; omega)) ?_)⟩)⟩)⟩)⟩
          rw [join_text2]
          exact q _ sm
def Shows (K : PySem.W.Frag) (H : Hp) (x : V) : Prop := (∃ d, Dp K H x d ∧ d.showable = true ∧ d.depth ≤ 60 ∧ d.shown.length ≤ sizeLine) ∨ ∃ e, x = .ref e ∧ H e = some (.dK [])
theorem Shows.same {H H' : Hp} {x : V} (e : Same H H') (h : Shows K H x) : Shows K H' x := by
  rcases h with ⟨d, h1, h2⟩ | ⟨p, h1, h2⟩
  · exact .inl ⟨d, dp_same e h1, h2⟩
  · exact .inr ⟨p, h1, e _ _ h2⟩
theorem Shows.str {H : Hp} {x : V} (h : Shows K H x) : ∃ s : Str, ∀ H', Same H H' → ∀ Q : VK, Q (.str s) H' → rRepr K [x] H' Q := by
  rcases h with ⟨d, h1, h2, h3, h4⟩ | ⟨p, rfl, h2⟩
  · exact ⟨d.shown, fun H' e Q q => reprD (dp_same e h1) h2 h3 h4 q⟩
  · exact ⟨_, fun H' e Q q => repr0 (e _ _ h2) q⟩
end
end Z
set_option maxRecDepth 100000
set_option maxHeartbeats 4000000
namespace Z
open PySem PySem.Spec PyProof.Rows L2
section
variable {P : Program} {w : World} {K : PySem.W.Frag} {mg : Str → Option Value} {base : Heap} {a : Ad}
theorem ok_lword (T : Tx P K mg a) : FnOk P w K mg base CX0 1 a.f__law_is_word a.d__law_is_word ["thing"] spWord := by
  refine T._law_is_word.fn.ok sc__law_is_word (fun vs H Q E h => ?_) (fun cdv A outer s H vs Q E hr h => ?_)
  · obtain ⟨z, rfl, _⟩ := h
    rfl
  · obtain ⟨z, rfl, hz, q⟩ := h
    have nd := sc__law_is_word.nd
    refine ⟨_, (pss_cons (ps_if (PW.pt (pw_or (pt_not (pt_val (cb_isi T.bi (pa_cons (pv 0) (pa_cons (gl_ty rfl T.bi.str PyProof.Rows.boot_str) pa_nil))))) (pw_or1 (pt_not (pt_chain op_le op_le pe_int (cb_len T.bi (pa_cons (pv 0) pa_nil)) pe_int)))))
      (pss_one (ps_ret pe_bl)) pss_nil)
      (pss_one (ps_ret (pe_cmpR (op_eqX hr) (pe_lc (own := [("sign", 1)]) (by rfl) nd (pi_str (pv 0)) (blkOk_by (own := [("sign", 1)]) (N := ["thing", "sign"]) (sc := defScope s__law_is_word) (by decide +kernel)) (fun _ _ _ _ _ => (pg_name (i := 1) nd rfl (Or.inl rfl))) (fun _ _ _ _ _ => pts_one (pt_cmpR (op_notInA (K := K)) (pv 1) pe_str rfl)) (fun _ _ _ _ _ => (pv 1))) (pe_lst pa_nil) (nomark _))))), ?_⟩
    refine ⟨_, rfl, isiTy (.base (.str z)) k_ss ?_⟩
    refine ⟨_, rfl, ?_⟩
    refine ⟨_, rfl, lenS hz ?_⟩
    refine ⟨1, _, rfl, rfl, _, rfl, ?_⟩
    have L : (z.length : Int) = ((ls z).length : Int) := by rw [ls_len]
    by_cases h1 : (1 : Int) ≤ (z.length : Int)
    · rw [decide_eq_true h1]
      refine ⟨_, 8, rfl, rfl, ?_⟩
      by_cases h2 : (z.length : Int) ≤ 8
      · refine ⟨_, rfl, ?_⟩
        rw [decide_eq_true h2]
        have hw : wordB (ls z) = (ls z).all isLB := by
          unfold wordB
          rw [decide_eq_true (show 1 ≤ (ls z).length by omega), decide_eq_true (show (ls z).length ≤ 8 by omega)]
          rfl
        refine ⟨_, rfl, z, rfl, fun D hD => ?_⟩
        refine lc_it (walk_str (z := z)) (fun i H' => ∃ acc : List V, H' D = some (.lst acc) ∧ Same H H' ∧ acc.length ≤ i ∧ acc.isEmpty = ((ls z).take i).all isLB) ⟨[], upd_same, sNew hD, Nat.le_refl _, rfl⟩ (fun _ _ _ _ => trivial) ?_ ?_
        · rintro i x H1 H1' hi ⟨acc, hA, sm, ln, em⟩ ⟨rfl, c, hc, rfl⟩
          refine ⟨rfl, _, rfl, ninSgn ?_⟩
          have hc' : (ls z)[i]? = some c := by
            show z.cps.toList[i]? = some c
            rw [Array.getElem?_toList]
            exact hc
          have tk : (ls z).take (i + 1) = (ls z).take i ++ [c] := by rw [List.take_succ, hc']; rfl
          refine ⟨_, rfl, ?_⟩
          rw [mem_let']
          cases hl : isLB c with
          | true => exact ⟨acc, hA, sm, Nat.le_succ_of_le ln, by rw [tk, List.all_append, ← em]; simp [hl]⟩
          | false =>
            have small : acc.length < sizeLine := by
              have : i < z.length := hi
              omega
            refine ⟨_, rfl, acc, hA, small, acc ++ [.str ⟨#[c]⟩], upd_same, fun b o e => ?_, by rw [List.length_append]; exact Nat.succ_le_succ ln, ?_⟩
            · rw [upd_ne (ne_of_none e hD)]
              exact sm b o e
            · rw [tk, List.all_append]
              simp [hl]
        · rintro H1 ⟨acc, hA, sm, ln, em⟩
          refine ⟨Nat.zero_le _, fun p hp => ?_⟩
          refine eqL0 (.inl (.inl (by rw [upd_ne (ne_of_none hA hp)]; exact hA))) upd_same ?_
          have : (ls z).take z.cps.size = ls z := List.take_of_length_le (by simp [ls])
          rw [em, this, ← hw]
          exact q _ (sm.trans (sNew hp))
      · refine ⟨_, rfl, ?_⟩
        rw [decide_eq_false h2]
        have hw : wordB (ls z) = false := by
          unfold wordB
          rw [decide_eq_false (show ¬ (ls z).length ≤ 8 by omega), Bool.and_false, Bool.false_and]
        rw [hw] at q
        exact q _ (fun _ _ e => e)
    · rw [decide_eq_false h1]
      have hw : wordB (ls z) = false := by
        unfold wordB
        rw [decide_eq_false (show ¬ 1 ≤ (ls z).length by omega), Bool.false_and, Bool.false_and]
      rw [hw] at q
      exact ⟨_, rfl, q _ (fun _ _ e => e)⟩
def spIsTerm : Sp := fun vs H Q _ => ∃ z : Str, vs = [.str z] ∧ z.length ≤ sizeLine ∧ ∀ H', Same H H' → Q (.bl (planOf z).isSome) H'
theorem ok_isterm (T : Tx P K mg a) : FnOk P w K mg base CX0 10 a.f__law_is_term a.d__law_is_term ["text"] spIsTerm := by
  have F1 : FnOk P w K mg base (L2.CX P w) 7 a.f_Term___init__ a.d_Term___init__ ["self", "value"] (spInit K a.C_Term a.C_NoTerm) := ok_init T
  refine T._law_is_term.fn.ok sc__law_is_term (fun vs H Q E h => ?_) (fun cdv A outer s H vs Q E hr h => ?_)
  · obtain ⟨z, rfl, _⟩ := h
    rfl
  · obtain ⟨z, rfl, hz, q⟩ := h
    have hr8 : Room 8 _ := hr.mono (by decide)
    refine ⟨_, (pss_one (ps_try_only (tb := fun W => tSeq (tDrop (tMakeX a.C_Term (spInit K a.C_Term a.C_NoTerm) (WE W) (tCons (tVar 0) tNil))) (tRet (tC (.bl true))))
        (ts := fun e cls d => tRet (tC (.bl false))) (Wout := fun _ _ _ _ => False) rfl rfl ⟨rfl, by decide, Or.inl T.e_NoTerm.gC⟩ takes0
        (fun W pn xe tk _ => pss_cons (ps_expr (pe_makeX T.mk_Term F1 hr8 rfl T.g_Term T.b_Term___init__ (fun σ => passAt tk σ) (pa_cons (pv 0) pa_nil))) (pss_one (ps_ret pe_bl)))
        (fun e oe cls d pn hz hf => pss_one (ps_ret pe_bl)))), ?_⟩
    refine ⟨_, rfl, ?_⟩
    intro o dx no nx ne
    have s0 : Same H (upd (upd H dx (.own o)) o (.ins a.C_Term dx [])) := (sNew nx).trans (sNew (by rw [upd_ne ne.symm]; exact no))
    refine ⟨o, dx, _, _, rfl, upd_same, .str z hz, fun t v H1 er b1 h1 hv => ⟨rfl, ?_⟩, fun er d H1 s1 nd1 => ?_⟩
    · have := q H1 fun c u hc => b1 c u (ne_of_none hc no) (s0 c u hc)
      rw [er] at this
      exact this
    · refine ⟨true, T.te_NoTerm, fun _ a0 na => ?_, fun z => nomatch z⟩
      have := q _ ((s0.trans s1).trans (sNew (o := .xd [("value", .str z)]) nd1))
      rw [er] at this
      exact this
end
end Z
set_option maxRecDepth 100000
set_option maxHeartbeats 4000000
namespace Z
open PySem PySem.Spec PyProof.Rows L2
def douts (r : Option (Str × Tr × Bool)) (z : Str) : List V := match r with
  | some p => [.str p.1, .str p.2.1.text, .bl p.2.2, .str z]
  | none => [.str "none", .str (reprText z), .bl true]
section
variable {P : Program} {w : World} {K : PySem.W.Frag} {mg : Str → Option Value} {base : Heap} {a : Ad}
def spDue (K : PySem.W.Frag) : Sp := fun vs H Q _ => ∃ z : Str, vs = [.str z] ∧ Plain z 200 ∧ ∀ p H', Same H H' → H' p = some (.lst (douts (dparts z) z)) → Q (.ref p) H'
theorem ok_due (T : Tx P K mg a) : FnG P w K mg base CX0 11 a.f__law_due a.d__law_due ["text"] (spDue K) := by
  have F1 : FnOk P w K mg base CX0 1 a.f__law_is_word a.d__law_is_word ["thing"] spWord := ok_lword T
  have F2 : FnOk P w K mg base CX0 10 a.f__law_is_term a.d__law_is_term ["text"] spIsTerm := ok_isterm T
  refine okG T._law_due.fn sc__law_due (fun vs H Q E h => ?_) (fun cdv A outer s H vs Q E hr gu h => ?_)
  · obtain ⟨z, rfl, _⟩ := h
    rfl
  · obtain ⟨z, rfl, pz, q⟩ := h
    have nd := sc__law_due.nd
    have hr1 : Room 1 _ := hr.mono (by decide)
    have sl := sl10
    have hz1 : z.length ≤ sizeLine := by have := pz.1; omega
    have hz : z.length + 2 ≤ sizeLine := by have := pz.1; omega
    refine ⟨_, (pss_cons (ps_for (passes_of rfl) rfl (pi_list (pe_lst (pa_cons (pe_tup (pa_cons pe_str (pa_cons pe_bl pa_nil))) (pa_cons (pe_tup (pa_cons pe_str (pa_cons pe_bl pa_nil))) pa_nil)))) (pg_tup rfl (pgs_cons (pg_name (i := 1) nd rfl (Or.inl rfl)) (pgs_cons (pg_name (i := 2) nd rfl (Or.inl rfl)) pgs_nil)))
        (pss_cons (ps_set (i := 3) nd rfl (Or.inl rfl) (pe_bm PySem.F.plainAttrs_str PySem.F.slot_str_split PySem.F.type_str_split mt_split (pv 0) (pa_cons (pv 1) pa_nil)))
        (pss_one (ps_if (PW.pt (pw_and (pt_cmpR (op_eqX hr) (cb_len T.bi (pa_cons (pv 3) pa_nil)) pe_int (nomark _)) (pw_and (pt_val (pe_cf T._law_is_word F1 hr1 (pa_cons (pe_ix ix_A (pv 3) pe_int (fun _ _ => rfl)) pa_nil))) (pw_and1 (pt_val (pe_cf T._law_is_term F2 hr (pa_cons (pe_ix ix_A (pv 3) pe_int (fun _ _ => rfl)) pa_nil)))))))
          (pss_one (ps_ret (pe_lst (pa_cons (pe_ix ix_A (pv 3) pe_int (fun _ _ => rfl)) (pa_cons (pe_ix ix_A (pv 3) pe_int (fun _ _ => rfl)) (pa_cons (pv 2) (pa_cons (pv 0) pa_nil))))))) pss_nil))))
      (pss_one (ps_ret (pe_lst (pa_cons pe_str (pa_cons (cb_repr T.bi gu hr.units (pa_cons (pv 0) pa_nil)) (pa_cons pe_bl pa_nil))))))), ?_⟩
    refine ⟨by show 2 ≤ sizeLine; decide, fun p1 hp1 => ?_⟩
    refine ⟨by show 2 ≤ sizeLine; decide, fun p2 hp2 => ?_⟩
    refine ⟨by show 2 ≤ sizeLine; decide, fun p0 hp0 => ?_⟩
    have s0 : Same H (upd (upd (upd H p1 (.tup [V.str (sgOf false), .bl false])) p2 (.tup [V.str (sgOf true), .bl true])) p0 (.lst [V.ref p1, .ref p2])) := ((sNew hp1).trans (sNew hp2)).trans (sNew hp0)
    refine ⟨p0, rfl, ⟨_, .inl (.inl upd_same)⟩, ?_⟩
    refine for_it (walk_list (xs := [V.ref p1, .ref p2])) (fun n σ H' => ∃ (o1 o2 o3 : Option V), σ = [some (.str z), o1, o2, o3] ∧ Same H H' ∧ H' p0 = some (.lst [V.ref p1, .ref p2]) ∧ H' p1 = some (.tup [V.str (sgOf false), .bl false]) ∧ H' p2 = some (.tup [V.str (sgOf true), .bl true]) ∧
        (1 ≤ n → dpart z false = none) ∧ (2 ≤ n → dpart z true = none))
      ⟨none, none, none, rfl, s0, upd_same, (sNew hp0) _ _ ((sNew hp2) _ _ upd_same), (sNew hp0) _ _ upd_same, fun h => absurd h (by omega), fun h => absurd h (by omega)⟩ (fun n σ H' _ ⟨_, _, _, _, _, hp, _⟩ => .inl (.inl hp)) ?_ ?_
    · rintro n x σ H2 H2' hn ⟨o1, o2, o3, rfl, sm, g0, g1, g2, d1, d2⟩ ⟨rfl, hx⟩
      obtain ⟨b, p, rfl, hb, hn'⟩ : ∃ (b : Bool) (p : Addr), x = .ref p ∧ H2' p = some (.tup [V.str (sgOf b), .bl b]) ∧ n = (if b then 1 else 0) := by
        match n, hx with
        | 0, hx => cases hx; exact ⟨false, _, rfl, g1, rfl⟩
        | 1, hx => cases hx; exact ⟨true, _, rfl, g2, rfl⟩
      refine ⟨p, _, rfl, .inl (.inl hb), rfl, ?_⟩
      refine ⟨_, _, rfl, _, _, rfl, rfl, ?_⟩
      refine ⟨_, rfl, rfl, _, rfl, z, sgOf b, rfl, rfl, by cases b <;> rfl, hz, fun l hl => ?_⟩
      have s1 := sNew (o := .lst ((Txt.split z (sgOf b)).map V.str)) hl
      have hL : ∀ {H3 : Hp}, Same (upd H2' l (.lst ((Txt.split z (sgOf b)).map V.str))) H3 → SqL K H3 l ((Txt.split z (sgOf b)).map V.str) := fun s => .inl (.inl (s _ _ upd_same))
      have fin : ∀ {H3 : Hp} {o1 o2 o3 : Option V}, Same (upd H2' l (.lst ((Txt.split z (sgOf b)).map V.str))) H3 → dpart z b = none → ∃ o1' o2' o3', [some (V.str z), o1, o2, o3] = [some (V.str z), o1', o2', o3'] ∧ Same H H3 ∧ H3 p0 = some (HO.lst [V.ref p1, V.ref p2]) ∧ H3 p1 = some (HO.tup [V.str (sgOf false), V.bl false]) ∧ H3 p2 = some (HO.tup [V.str (sgOf true), V.bl true]) ∧ (1 ≤ n + 1 → dpart z false = none) ∧ (2 ≤ n + 1 → dpart z true = none) := fun s e => by
        refine ⟨_, _, _, rfl, (sm.trans s1).trans s, s _ _ (s1 _ _ g0), s _ _ (s1 _ _ g1), s _ _ (s1 _ _ g2), fun _ => ?_, fun h => ?_⟩
        · cases b with
          | false => exact e
          | true => exact d1 (by rw [hn']; decide)
        · cases b with
          | false => rw [hn'] at h; exact absurd h (by decide)
          | true => exact e
      refine ⟨_, rfl, lenL (hL (Same.refl _)) ?_⟩
      refine eqI ?_
      refine ⟨_, rfl, ?_⟩
      rw [List.length_map]
      by_cases h2 : (((Txt.split z (sgOf b)).length : Nat) : Int) = 2
      · rw [decide_eq_true h2]
        obtain ⟨x, y, hxy⟩ : ∃ x y, Txt.split z (sgOf b) = [x, y] := by
          match hs : Txt.split z (sgOf b), h2 with
          | [x, y], _ => exact ⟨x, y, rfl⟩
          | [], h => exact absurd h (by decide)
          | [x], h => exact absurd h (by simp)
          | x :: y :: c :: r, h => simp only [List.length_cons] at h; omega
        have lx : x.length ≤ sizeLine := Nat.le_trans (PyProof.Rows.part_short (x := z) (y := sgOf b) (by rw [hxy]; simp)) hz1
        have ly : y.length ≤ sizeLine := Nat.le_trans (PyProof.Rows.part_short (x := z) (y := sgOf b) (by rw [hxy]; simp)) hz1
        have h0 : ∀ {H3 : Hp}, Same (upd H2' l (.lst ((Txt.split z (sgOf b)).map V.str))) H3 → SqL K H3 l [V.str x, V.str y] := fun s => by
          have := hL s
          rw [hxy] at this
          exact this
        refine ⟨_, rfl, ixL (i := 0) (h0 (Same.refl _)) rfl ?_⟩
        refine ⟨x, rfl, lx, fun H3 s3 => ⟨_, rfl, ?_⟩⟩
        cases hw : wordB (ls x) with
        | false =>
          refine fin s3 ?_
          unfold dpart
          rw [hxy]
          show (if wordB (ls x) = true then _ else none) = none
          rw [hw]
          rfl
        | true =>
          refine ⟨_, rfl, ixL (i := 1) (h0 s3) rfl ?_⟩
          refine ⟨y, rfl, ly, fun H4 s4 => ⟨_, rfl, ?_⟩⟩
          have s34 := s3.trans s4
          cases hp : planOf y with
          | none =>
            refine fin s34 ?_
            unfold dpart
            rw [hxy]
            show (if wordB (ls x) = true then _ else none) = none
            rw [hw, hp]
            rfl
          | some t =>
            have hd : dpart z b = some (x, t) := by
              unfold dpart
              rw [hxy]
              show (if wordB (ls x) = true then _ else none) = _
              rw [hw, hp]
              rfl
            have hD : dparts z = some (x, t, b) := by
              unfold dparts
              cases b with
              | false => rw [hd]
              | true => rw [d1 (by rw [hn']; decide), hd]
            refine ⟨_, rfl, ixL (i := 0) (h0 s34) rfl ?_⟩
            refine ⟨_, rfl, ixL (i := 1) (h0 s34) rfl ?_⟩
            refine ⟨_, rfl, _, rfl, by show 4 ≤ sizeLine; decide, fun p5 hp5 => ?_⟩
            refine q p5 _ ((((sm.trans s1).trans s34)).trans (sNew hp5)) ?_
            rw [upd_same, hD]
            show _ = some (HO.lst [V.str x, V.str t.text, V.bl b, V.str z])
            rw [planOf_text hp]
      · rw [decide_eq_false h2]
        refine fin (Same.refl _) ?_
        unfold dpart dpair
        split
        · rename_i x y e
          rw [e] at h2
          exact absurd rfl h2
        · rfl
    · rintro σ H2 ⟨o1, o2, o3, rfl, sm, g0, g1, g2, d1, d2⟩
      have e0 : dparts z = none := by
        unfold dparts
        rw [d1 (show 1 ≤ 2 by decide), d2 (show 2 ≤ 2 by decide)]
      refine ⟨_, rfl, ((pz.shows (by decide)).repr ?_)⟩
      refine ⟨by show 3 ≤ sizeLine; decide, fun p5 hp5 => ?_⟩
      refine q p5 _ (sm.trans (sNew hp5)) ?_
      rw [upd_same, e0]
      rfl
end
end Z
set_option maxRecDepth 100000
set_option maxHeartbeats 4000000
namespace Z
open PySem PySem.Spec PyProof.Rows L2
theorem signs_low : ∀ t : Tr, t.Ok → ∀ c ∈ ls t.text, c < 200
  | .con n, ok, c, hc => by
    rw [con_text ok] at hc
    obtain ⟨h1, h2⟩ : 0 ≤ n ∧ n ≤ 9 := ok
    have := List.mem_singleton.mp hc
    omega
  | .var w, ok, c, hc => by
    have h : isLet c := (show Word w from ok).2.2 c hc
    obtain ⟨h1, h2⟩ := h
    omega
  | .cho a b d e, ok, c, hc => by
    obtain ⟨oa, ob, od, oe⟩ : a.Ok ∧ b.Ok ∧ d.Ok ∧ e.Ok := ok
    rw [cho_text] at hc
    simp only [List.mem_cons, List.mem_append, List.not_mem_nil, or_false] at hc
    rcases hc with rfl | hc | rfl | hc | rfl | hc | rfl | hc | rfl
    · decide
    · exact signs_low a oa c hc
    · decide
    · exact signs_low b ob c hc
    · decide
    · exact signs_low d od c hc
    · decide
    · exact signs_low e oe c hc
    · decide
theorem sg_len (b : Bool) : (sgOf b).length = 4 := by cases b <;> decide +kernel
theorem dtext_plain {x : Str} {t : Tr} {b : Bool} (hx : Word x) (ht : t.Ok) (hd : t.deep ≤ 3) : Plain (dtext x t b) 180 := by
  have h1 := hx.2.1
  have h2 := text_small ht hd
  refine ⟨?_, fun c hc => ?_⟩
  · unfold dtext
    rw [len_app, len_app, sg_len]
    omega
  · unfold dtext at hc
    rw [ls_app, ls_app, List.mem_append, List.mem_append, sg_ls] at hc
    rcases hc with (hc | hc) | hc
    · obtain ⟨h1, h2⟩ : isLet c := hx.2.2 c hc
      omega
    · simp only [List.mem_cons, List.not_mem_nil, or_false] at hc
      rcases hc with rfl | rfl | rfl | rfl <;> (try split) <;> decide
    · have := signs_low t ht c hc
      omega
theorem Plain.mono {z : Str} {m n : Nat} (h : Plain z m) (k : m ≤ n) : Plain z n := ⟨Nat.le_trans h.1 k, h.2⟩
section
variable {P : Program} {w : World} {K : PySem.W.Frag} {mg : Str → Option Value} {base : Heap} {a : Ad}
def spBent : Sp := fun vs H Q _ => ∃ (l : Addr) (z : Str), vs = [.ref l, .str z] ∧ PoolAt H l ∧ Plain z 180 ∧ ∀ y H', But l H H' → PoolAt H' l → Plain y 181 → Q (.str y) H'
theorem bent_signs {c : Nat} (h : c ∈ ls (" :=<(ab0?)A" : Str)) : c < 16 ^ 8 := by
  have : ls (" :=<(ab0?)A" : Str) = [32, 58, 61, 60, 40, 97, 98, 48, 63, 41, 65] := by decide +kernel
  rw [this] at h
  simp only [List.mem_cons, List.not_mem_nil, or_false] at h
  omega
theorem ok_bent (T : Tx P K mg a) : FnOk P w K mg base CX0 3 a.f__law_bent a.d__law_bent ["pool", "text"] spBent := by
  have F1 : FnOk P w K mg base CX0 1 a.f__law_take a.d__law_take ["pool", "bound"] spTake := ok_take T
  have F2 : FnOk P w K mg base CX0 2 a.f__law_one a.d__law_one ["pool", "things"] (spOne K) := ok_one T
  refine T._law_bent.fn.ok sc__law_bent (fun vs H Q E h => ?_) (fun cdv A outer s H vs Q E hr h => ?_)
  · obtain ⟨l, z, rfl, _⟩ := h
    rfl
  · obtain ⟨l, z, rfl, hP, hz, k⟩ := h
    have nd := sc__law_bent.nd
    have hr1 : Room 1 _ := hr.mono (by decide)
    refine ⟨_, (pss_cons (ps_par (i := 2) (j := 3) (by rfl) nd rfl rfl (by decide) rfl rfl (pa_cons (pe_cf T._law_one F2 hr (pa_cons (pv 0) (pa_cons pe_str pa_nil))) (pa_cons (pe_cf T._law_take F1 hr1 (pa_cons (pv 0) (pa_cons (pe_op op_addA (cb_len T.bi (pa_cons (pv 1) pa_nil)) pe_int) pa_nil))) pa_nil)) (by rfl))
      (pss_cons (ps_if (pt_cmpR (op_eqX hr) (pe_cf T._law_take F1 hr1 (pa_cons (pv 0) (pa_cons pe_int pa_nil))) pe_int (nomark _))
        (pss_one (ps_ret (pe_op op_addA (pe_op op_addA (pe_slice sl_str (pv 1) po_none (po_some (pv 3))) (pv 2)) (pe_slice sl_str (pv 1) (po_some (pv 3)) po_none)))) pss_nil)
      (pss_one (ps_ret (pe_op op_addA (pe_slice sl_str (pv 1) po_none (po_some (pv 3))) (pe_slice sl_str (pv 1) (po_some (pe_op op_addA (pv 3) pe_int)) po_none)))))), ?_⟩
    have sl := sl10
    have zl : z.length ≤ sizeLine := by have := hz.1; omega
    have bl : (" :=<(ab0?)A" : Str).length = 11 := by decide +kernel
    refine ⟨_, rfl, l, _, rfl, hP, .inr ⟨_, rfl, by rw [bl]; decide, by rw [bl]; decide, fun c H1 b1 P1 hc => ?_⟩⟩
    have hc' := bent_signs hc
    refine ⟨_, rfl, _, rfl, lenS zl (addI ?_)⟩
    refine ⟨l, _, rfl, P1, by have := hz.1; omega, by have := hz.1; omega, fun r H2 b2 P2 r0 r1 => ?_⟩
    obtain ⟨s0, rfl⟩ := Int.eq_ofNat_of_zero_le r0
    have hs0 : s0 ≤ z.length := by omega
    refine ⟨_, _, rfl, ?_⟩
    refine ⟨_, rfl, l, 2, rfl, P2, by decide, by decide, fun r3 H3 b3 P3 r30 r31 => ?_⟩
    have bA := (b1.trans b2).trans b3
    have c0 := cut_lo hs0
    have c1 := cut_hi (z := z) (k := s0)
    have c2 := cut_hi (z := z) (k := s0 + 1)
    have z1 := hz.1
    have sc : ∀ d ∈ ls (tx [c]), d < 16 ^ 8 := fun d hd => by
      rw [ls_tx, List.mem_singleton] at hd
      rw [hd]
      exact hc'
    have tl : (tx [c]).length = 1 := tx_len [c]
    refine eqI ?_
    refine ⟨_, rfl, ?_⟩
    by_cases h0 : r3 = 0
    · rw [decide_eq_true h0]
      refine ⟨_, rfl, _, rfl, _, rfl, z, rfl, zl, _, rfl, addS (by rw [c0, tl]; omega) ?_⟩
      refine ⟨_, rfl, _, rfl, _, rfl, z, rfl, zl, addS (by rw [len_app, c0, c1, tl]; omega) ?_⟩
      refine k _ _ bA P3 ⟨by rw [len_app, len_app, c0, c1, tl]; omega, app_plain (app_plain (cut_plain hz _ _) sc) (cut_plain hz _ _)⟩
    · rw [decide_eq_false h0]
      refine ⟨_, rfl, _, rfl, _, rfl, z, rfl, zl, ?_⟩
      refine ⟨_, rfl, _, rfl, addI ⟨_, rfl, z, rfl, zl, addS (by rw [c0]; erw [c2]; omega) ?_⟩⟩
      refine k _ _ bA P3 ⟨by rw [len_app, c0]; erw [c2]; omega, app_plain (cut_plain hz _ _) (cut_plain hz _ _)⟩
def EntryAt (K : PySem.W.Frag) (H : Hp) (p : Addr) (x : Str) (t : Tr) (b : Bool) : Prop := ∃ v, SqT K H p [.str x, .bl b, v] ∧ Dp K H v t.d ∧ Word x ∧ t.Ok ∧ t.deep ≤ 3
theorem EntryAt.same {H H' : Hp} {p : Addr} {x : Str} {t : Tr} {b : Bool} (e : Same H H') (h : EntryAt K H p x t b) : EntryAt K H' p x t b := by
  obtain ⟨v, h1, h2, h3⟩ := h
  exact ⟨v, SqT.same e h1, tr_same e h2, h3⟩
theorem EntryAt.tk {H H' : Hp} {p : Addr} {x : Str} {t : Tr} {b : Bool} (e : TK H H') (h : EntryAt K H p x t b) : EntryAt K H' p x t b := by
  obtain ⟨v, h1, h2, h3⟩ := h
  exact ⟨v, SqT.tk e h1, tr_tk e t h2, h3⟩
def spDText (K : PySem.W.Frag) : Sp := fun vs H Q _ => ∃ p x t b, vs = [.ref p] ∧ EntryAt K H p x t b ∧ ∀ H', Same H H' → Q (.str (dtext x t b)) H'
theorem ok_dtext (T : Tx P K mg a) : FnOk P w K mg base CX0 5 a.f__law_deed_text a.d__law_deed_text ["deed"] (spDText K) := by
  have F1 : FnOk P w K mg base CX0 4 a.f__law_tree_text a.d__law_tree_text ["tree"] (spText K 3) := ok_ltext T 3
  refine T._law_deed_text.fn.ok sc__law_deed_text (fun vs H Q E h => ?_) (fun cdv A outer s H vs Q E hr h => ?_)
  · obtain ⟨p, x, t, b, rfl, _⟩ := h
    rfl
  · obtain ⟨p, x, t, b, rfl, ⟨v, h1, h2, hx, ht, hd⟩, k⟩ := h
    refine ⟨_, (pss_one (ps_ret (pe_op op_addA (pe_op op_addA (pe_ix ix_A (pv 0) pe_int (fun _ _ => rfl)) (pe_ifExp (pt_val (pe_ix ix_A (pv 0) pe_int (fun _ _ => rfl))) pe_str pe_str)) (pe_cf T._law_tree_text F1 hr (pa_cons (pe_ix ix_A (pv 0) pe_int (fun _ _ => rfl)) pa_nil))))), ?_⟩
    have lx : x.length ≤ 8 := hx.2.1
    have lt := text_small ht hd
    have sl := sl10
    have lg := sg_len b
    refine ⟨_, rfl, ixT (i := 0) h1 rfl ?_⟩
    refine ⟨_, rfl, ixT (i := 1) h1 rfl ⟨b, rfl, ?_⟩⟩
    have fin : ∀ sg, sg = sgOf b → rAddA K (.str x) (.str sg) H fun y H1 => tCall (spText K 3) [] E0 (tCons (tOp (rIxA K) (tVar 0) (tC (.int 2))) tNil) [some (V.ref p)] H1 fun z H2 => rAddA K y z H2 Q := by
      intro sg e
      subst e
      refine addS (by omega) ?_
      refine ⟨_, rfl, ixT (i := 2) h1 rfl ?_⟩
      refine ⟨v, t, rfl, h2, ht, hd, by decide, fun H1 s1 => addS (by rw [len_app]; omega) ?_⟩
      exact k H1 s1
    cases b with
    | true => exact fin _ rfl
    | false => exact fin _ rfl
def spTold (K : PySem.W.Frag) (CD CT : Addr) : Sp := fun vs H Q _ => ∃ p x t b, vs = [.ref p] ∧ DeedAt K CD CT H p x t b ∧ Word x ∧ t.deep ≤ 3 ∧ ∀ q H', Same H H' → H' q = some (.lst (douts (some (x, t, b)) (dtext x t b))) → Q (.ref q) H'
theorem ok_told (T : Tx P K mg a) : FnOk P w K mg base CX0 10 a.f__law_told a.d__law_told ["deed"] (spTold K a.C_Deed a.C_Term) := by
  have F1 : FnOk P w K mg base CX0 1 a.f_Deed_variable a.d_Deed_variable ["self"] (spDVar K a.C_Deed a.C_Term) := ok_dvar T
  have F2 : FnOk P w K mg base CX0 1 a.f_Deed_term a.d_Deed_term ["self"] (spDTerm K a.C_Deed a.C_Term) := ok_dterm T
  have F3 : FnOk P w K mg base CX0 1 a.f_Deed_late a.d_Deed_late ["self"] (spDLate K a.C_Deed a.C_Term) := ok_dlate T
  have F4 : FnOk P w K mg base CX0 5 a.f_Term___str__ a.d_Term___str__ ["self"] (spStr K a.C_Term) := ok_str T
  have F5 : FnOk P w K mg base CX0 7 a.f_Deed___str__ a.d_Deed___str__ ["self"] (spDStr K a.C_Deed a.C_Term) := ok_dstr T
  refine T._law_told.fn.ok sc__law_told (fun vs H Q E h => ?_) (fun cdv A outer s H vs Q E hr h => ?_)
  · obtain ⟨p, x, t, b, rfl, _⟩ := h
    rfl
  · obtain ⟨p, x, t, b, rfl, dd, hw, hd, k⟩ := h
    have isF1 : PySem.W.isFn K (.ref a.f_Term___str__) = true := T.m_Term___str__.fn
    have isF2 : PySem.W.isFn K (.ref a.f_Deed___str__) = true := T.m_Deed___str__.fn
    have hr2 : Room 2 _ := hr.mono (by decide)
    refine ⟨_, (pss_one (ps_ret (by exact (pe_lst (pa_cons (pe_prop (pv 0) T.c_Deed T.p_Deed_variable F1 hr2 T.b_Deed_variable .nil pass0 rfl) (pa_cons (pe_callTy (call_strO F4 T.m_Term___str__.at_ isF1 T.b_Term___str__ pass0 (hr.mono (by decide))) rfl T.bi.str PyProof.Rows.boot_str (pa_cons (pe_prop (pv 0) T.c_Deed T.p_Deed_term F2 hr2 T.b_Deed_term .nil pass0 rfl) pa_nil))
      (pa_cons (pe_prop (pv 0) T.c_Deed T.p_Deed_late F3 hr2 T.b_Deed_late .nil pass0 rfl) (pa_cons (pe_callTy (call_strO F5 T.m_Deed___str__.at_ isF2 T.b_Deed___str__ pass0 (hr.mono (by decide))) rfl T.bi.str PyProof.Rows.boot_str (pa_cons (pv 0) pa_nil)) pa_nil)))))))), ?_⟩
    have d0 := dd
    obtain ⟨dx, q, h1, h2⟩ := d0
    refine ⟨_, rfl, p, dx, _, rfl, h1, p, x, t, b, rfl, dd, ?_⟩
    refine ⟨_, rfl, p, dx, _, rfl, h1, p, x, t, b, rfl, dd, fun q' tq => ?_⟩
    have t0 := tq
    obtain ⟨e1, u1, z1, _⟩ := t0
    refine ⟨q', e1, _, rfl, z1, q', t, rfl, tq, hd, fun H1 s1 => ⟨_, rfl, ?_⟩⟩
    have d1 := dd.same s1
    refine ⟨_, rfl, p, dx, _, rfl, s1 _ _ h1, p, x, t, b, rfl, d1, ?_⟩
    refine ⟨_, rfl, p, dx, _, rfl, s1 _ _ h1, p, x, t, b, rfl, d1, hw, hd, fun H2 s2 => ⟨_, rfl, ?_⟩⟩
    refine ⟨by show 4 ≤ sizeLine; decide, fun r hr => ?_⟩
    exact k r _ ((s1.trans s2).trans (sNew hr)) upd_same
end
end Z
set_option maxRecDepth 100000
set_option maxHeartbeats 4000000
namespace Z
open PySem PySem.Spec PyProof.Rows L2
section
variable {P : Program} {w : World} {K : PySem.W.Frag} {mg : Str → Option Value} {base : Heap} {a : Ad}
def Ents (K : PySem.W.Frag) (H : Hp) (ps : List Addr) (es : List (Str × Tr × Bool)) : Prop := ps.length = es.length ∧ ∀ (j : Nat) (p : Addr) (e : Str × Tr × Bool), ps[j]? = some p → es[j]? = some e → EntryAt K H p e.1 e.2.1 e.2.2
theorem Ents.tk {H H' : Hp} {ps : List Addr} {es : List (Str × Tr × Bool)} (k : TK H H') (h : Ents K H ps es) : Ents K H' ps es := ⟨h.1, fun j p e h1 h2 => (h.2 j p e h1 h2).tk k⟩
theorem Ents.nil {H : Hp} : Ents K H [] [] := ⟨rfl, fun j p e h _ => by simp at h⟩
theorem Ents.snoc {H : Hp} {ps : List Addr} {es : List (Str × Tr × Bool)} {p : Addr} {e : Str × Tr × Bool} (h : Ents K H ps es) (k : EntryAt K H p e.1 e.2.1 e.2.2) : Ents K H (ps ++ [p]) (es ++ [e]) := by
  refine ⟨by rw [List.length_append, List.length_append, h.1]; rfl, fun j q f h1 h2 => ?_⟩
  by_cases hj : j < ps.length
  · rw [List.getElem?_append_left hj] at h1
    rw [List.getElem?_append_left (by rw [← h.1]; exact hj)] at h2
    exact h.2 j q f h1 h2
  · have : j = ps.length := by
      have := (List.getElem?_eq_some_iff.mp h1).1
      rw [List.length_append, List.length_singleton] at this
      omega
    subst this
    rw [List.getElem?_append_right (Nat.le_refl _), Nat.sub_self] at h1
    rw [List.getElem?_append_right (by rw [h.1]; exact Nat.le_refl _), h.1, Nat.sub_self] at h2
    cases h1
    cases h2
    exact k
theorem EntryAt.but {l : Addr} {H H' : Hp} {p : Addr} {x : Str} {t : Tr} {b : Bool} (k : But l H H') (hP : PoolAt H l) (h : EntryAt K H p x t b) : EntryAt K H' p x t b := by
  obtain ⟨i, j, h1, _⟩ := hP
  exact h.tk (k.tk h1)
theorem Ents.but {l : Addr} {H H' : Hp} {ps : List Addr} {es : List (Str × Tr × Bool)} (k : But l H H') (hP : PoolAt H l) (h : Ents K H ps es) : Ents K H' ps es := by
  obtain ⟨i, j, h1, _⟩ := hP
  exact h.tk (k.tk h1)
def spDrawn (K : PySem.W.Frag) : Sp := fun vs H Q _ => ∃ (l pw pd : Addr) (w1 w2 w3 : Str), vs = [.ref l, .ref pw, .ref pw, .ref pd, .int 6, .int 3] ∧ PoolAt H l ∧ pw ≠ l ∧ pd ≠ l ∧ H pw = some (.lst [.str w1, .str w2, .str w3]) ∧ H pd = some (.lst [.int 0, .int 4]) ∧ Short w1 ∧ Short w2 ∧ Short w3 ∧
  ∀ (D : Addr) (ps : List Addr) (es : List (Str × Tr × Bool)) H', But l H H' → PoolAt H' l → D ≠ l → H' D = some (.lst (ps.map V.ref)) → Ents K H' ps es → ps.length ≤ 6 → Q (.ref D) H'
theorem ok_drawn (T : Tx P K mg a) : FnOk P w K mg base CX0 7 a.f__law_deeds_drawn a.d__law_deeds_drawn ["pool", "written", "words", "digits", "bound", "deep"] (spDrawn K) := by
  have F1 : FnOk P w K mg base CX0 1 a.f__law_take a.d__law_take ["pool", "bound"] spTake := ok_take T
  have F2 : FnOk P w K mg base CX0 2 a.f__law_one a.d__law_one ["pool", "things"] (spOne K) := ok_one T
  have F3 : FnOk P w K mg base CX0 6 a.f__law_tree a.d__law_tree ["pool", "words", "digits", "deep"] (spTree K 3) := ok_tree T 3
  refine T._law_deeds_drawn.fn.ok sc__law_deeds_drawn (fun vs H Q E h => ?_) (fun cdv A outer s H vs Q E hr h => ?_)
  · obtain ⟨l, pw, pd, w1, w2, w3, rfl, _⟩ := h
    rfl
  · obtain ⟨l, pw, pd, w1, w2, w3, rfl, hP, nw, ndl, hw, hd, s1, s2, s3, k⟩ := h
    have nd := sc__law_deeds_drawn.nd
    have hr1 : Room 1 _ := hr.mono (by decide)
    have hr2 : Room 2 _ := hr.mono (by decide)
    refine ⟨_, (pss_cons (ps_set (i := 6) nd rfl (Or.inl rfl) (pe_lst pa_nil))
      (pss_cons (ps_for PassesOwn.never rfl (pi_range1 rfl T.bi.range (pa_cons (pe_op op_addA pe_int (pe_cf T._law_take F1 hr1 (pa_cons (pv 0) (pa_cons (pv 4) pa_nil)))) pa_nil)) (pg_name (i := 7) nd rfl (Or.inl rfl))
        (pss_cons (ps_set (i := 8) nd rfl (Or.inl rfl) (pe_cf T._law_tree F3 hr (pa_cons (pv 0) (pa_cons (pv 2) (pa_cons (pv 3) (pa_cons (pv 5) pa_nil))))))
        (pss_one (ps_expr (pe_bm PySem.F.plainAttrs_list PySem.F.slot_list_append PySem.F.type_list_append mt_append (pv 6) (pa_cons (pe_tup (pa_cons (pe_cf T._law_one F2 hr2 (pa_cons (pv 0) (pa_cons (pv 1) pa_nil))) (pa_cons (pe_cmpR (op_eqX hr) (pe_cf T._law_take F1 hr1 (pa_cons (pv 0) (pa_cons pe_int pa_nil))) pe_int (nomark _)) (pa_cons (pv 8) pa_nil)))) pa_nil))))))
      (pss_one (ps_ret (pv 6))))), ?_⟩
    refine ⟨Nat.zero_le _, fun D hD => ?_⟩
    have nDl := hP.ne hD
    refine ⟨_, rfl, _, rfl, l, 6, rfl, hP.upd nDl, by decide, by decide, fun r H1 b1 P1 r0 r1 => ?_⟩
    have hD1 : H1 D = some (.lst []) := b1 _ _ nDl.symm upd_same
    have bA : But l H H1 := fun c o hc e => b1 c o hc (sNew hD c o e)
    refine addI ?_
    refine ⟨_, rfl, by omega, by omega, ?_⟩
    refine for_it (walk_range (lo := 0)) (fun n σ H' => ∃ (o7 o8 : Option V) (ps : List Addr) (es : List (Str × Tr × Bool)), σ = [some (.ref l), some (.ref pw), some (.ref pw), some (.ref pd), some (.int 6), some (.int 3), some (.ref D), o7, o8] ∧ But l H H' ∧ PoolAt H' l ∧ H' D = some (.lst (ps.map V.ref)) ∧ Ents K H' ps es ∧ ps.length = n)
      ⟨none, none, [], [], rfl, bA, P1, hD1, .nil, rfl⟩ (fun _ _ _ _ _ => trivial) ?_ ?_
    · rintro n x σ H2 H2' hn ⟨o7, o8, ps, es, rfl, b2, P2, gD, en, ln⟩ ⟨rfl, rfl⟩
      have hn6 : n < 6 := by omega
      refine ⟨_, rfl, _, rfl, _, rfl, _, rfl, l, pw, pd, w1, w2, w3, 4, rfl, by decide, by decide, P2, nw, ndl, b2 _ _ nw hw, b2 _ _ ndl hd, s1, s2, s3, by decide, fun v t H3 b3 P3 hv ok hdp => ?_⟩
      have b23 := b2.trans b3
      refine ⟨_, rfl, .inl ⟨rfl, _, .inl (.inl (b3 _ _ nDl.symm gD))⟩, ?_⟩
      refine ⟨_, rfl, _, rfl, l, _, rfl, P3, .inl ⟨pw, _, rfl, nw, .inl (.inl (b23 _ _ nw hw)), by simp, by show 3 < 1000; decide, fun i y H4 b4 P4 hy => ?_⟩⟩
      obtain ⟨m, rfl, sm⟩ : ∃ m : Str, y = .str m ∧ Short m := by
        have := List.mem_of_getElem? hy
        simp only [List.mem_cons, List.not_mem_nil, or_false] at this
        rcases this with rfl | rfl | rfl
        · exact ⟨_, rfl, s1⟩
        · exact ⟨_, rfl, s2⟩
        · exact ⟨_, rfl, s3⟩
      refine ⟨_, rfl, l, 3, rfl, P4, by decide, by decide, fun r4 H5 b5 P5 _ _ => eqI ?_⟩
      have b45 := b4.trans b5
      have b35 := b3.trans b45
      refine ⟨_, rfl, by show 3 ≤ sizeLine; decide, fun q hq => ?_⟩
      have gD5 := b35 _ _ nDl.symm gD
      have nDq : D ≠ q := ne_of_none gD5 hq
      have hv5 : Dp K H5 v t.d := by
        obtain ⟨i0, j0, h1, _⟩ := P3
        exact tr_tk (b45.tk h1) t hv
      have eq5 : EntryAt K (upd H5 q (.tup [.str m, .bl (decide (r4 = 0)), v])) q m t (decide (r4 = 0)) := ⟨v, .inl (.inl upd_same), tr_same (sNew hq) hv5, sm.word, ok, hdp⟩
      refine ⟨D, _, _, rfl, rfl, (sNew hq) _ _ gD5, by rw [List.length_map, ln]; have := sl10; omega, ?_⟩
      have tkk : TK (upd H5 q (.tup [.str m, .bl (decide (r4 = 0)), v])) (upd (upd H5 q (.tup [.str m, .bl (decide (r4 = 0)), v])) D (.lst (ps.map V.ref ++ [V.ref q]))) := TK.lst ((sNew hq) _ _ gD5)
      refine ⟨_, _, ps ++ [q], es ++ [(m, t, decide (r4 = 0))], rfl, ?_, ?_, by rw [upd_same, List.map_append]; rfl, ?_, by rw [List.length_append, ln]; rfl⟩
      · intro c o hc e
        have e5 := b23.trans b45 c o hc e
        by_cases hcD : c = D
        · subst hcD
          rw [hD] at e
          cases e
        · rw [upd_ne hcD]
          exact sNew hq c o e5
      · exact (P5.upd (P5.ne hq)).upd nDl
      · refine Ents.snoc ?_ (eq5.tk tkk)
        refine Ents.tk tkk ?_
        have := (en.but b35 P2)
        exact this.tk (TK.of (sNew hq))
    · rintro σ H2 ⟨o7, o8, ps, es, rfl, b2, P2, gD, en, ln⟩
      refine ⟨_, rfl, k D ps es H2 b2 P2 nDl.symm gD en ?_⟩
      omega
end
end Z
set_option maxRecDepth 100000
set_option maxHeartbeats 4000000
namespace Z
open PySem PySem.Spec PyProof.Rows L2
def TTry (K : PySem.W.Frag) (CD CT CN : Addr) : (XK → Hp → VK → Prop) → Hp → VK → Prop := fun tl H Q =>
  tl (fun cls d H' => ∃ d0 x sx, cls = .ref CN ∧ d = some d0 ∧ H' d0 = some (.xd [("value", x)]) ∧ ShowsAs K H' x sx ∧ ∀ p H2, Same H' H2 → H2 p = some (.lst [.str "none", .str sx, .bl true]) → Q (.ref p) H2) H
    (fun v H' => spTold K CD CT [v] H' Q L2.E0)
theorem takes_len {X : Cx} {W : WX} (t : Takes X W) : Takes X (fun c d σ H => σ.length = X.N.length → W c d σ H) := fun u s' ⟨a, B, sI, pins, σ, H, cls, d, e, I, nb, up, sky, na, os, ag, w⟩ =>
  t u s' ⟨a, B, sI, pins, σ, H, cls, d, e, I, nb, up, sky, na, os, ag, w I.len⟩
theorem tried_gives {X : Cx} {a : Ad} {q : Str} {g : Addr} {cdg : Value} (T : Tx X.prog X.K X.mg a) (gu : X.A.guards = some []) (room : Room 11 X.A) :
    LamX.GivesTo X ["function", "e"] "_law_tried" (defScope s__law_tried) g cdg (defBody s__law_tried) "function" q (TTry X.K a.C_Deed a.C_Term a.C_NoDeed) := by
  intro f c' s H Q tl act hc h
  have hr : Room 10 (X.A.deeper (envOfC "_law_tried" (defScope s__law_tried) s.heap.objs.size g cdg)) := room.deeper _
  have F1 : FnOk X.prog X.w X.K X.mg X.base CX0 10 a.f__law_told a.d__law_told ["deed"] (spTold X.K a.C_Deed a.C_Term) := ok_told T
  have nd := sc__law_tried.nd
  refine ⟨_, (pss_one (ps_try_as (i := 1) (tb := fun W => fun D σ H => ∃ Ech : XK, (∀ cls d σ' H', σ'.length = 2 → Ech cls d H' → W cls d σ' H') ∧ tRet (tCall (spTold X.K a.C_Deed a.C_Term) [] L2.E0 (tCons (fun σZ HZ Q => σZ[0]? = some (some (.ref f)) ∧ HZ c' = some (LamX.CodeO c' q) ∧ tl Ech HZ Q) tNil)) D σ H)
      (ts := fun e cls d => fun D σ H => cls = .ref a.C_NoDeed ∧ tRet (tLst (tCons (tC (.str "none")) (tCons (tCB (rRepr X.K) (tCons (tXf e cls d a.C_NoDeed "value" (tVar 1)) tNil)) (tCons (tCB (rIsY X.K a.C_NoDeed e) (tCons (tVar 1) (tCons (tC (.ref a.C_TiedError)) tNil))) tNil)))) D σ H) (Wout := fun _ _ _ _ => False) rfl rfl nd rfl rfl ⟨rfl, by decide, Or.inl T.e_NoDeed.gC⟩ takes0
      (fun W pn xe tk _ => ?_) (fun e oe cls d pn hz hf => ?_))), ?_⟩
  · constructor
    intro pins s1 σ H1 D I h1
    obtain ⟨Ech, hW, h2⟩ := h1
    refine PSs.run (t := tRet (tCall (spTold X.K a.C_Deed a.C_Term) [] L2.E0 (tCons (fun σZ HZ Q => σZ[0]? = some (some (.ref f)) ∧ HZ c' = some (LamX.CodeO c' q) ∧ tl Ech HZ Q) tNil))) ?_ pins s1 σ H1 D I h2
    exact pss_one (ps_ret (pe_cf T._law_told F1 hr (pa_cons (act _ pn xe Ech _ _ (takes_len tk) (fun cls d σ' H' e l => hW cls d σ' H' l e)) pa_nil)))
  · constructor
    intro pins s1 σ H1 D I h1
    obtain ⟨hc, h1⟩ := h1
    refine PSs.run (t := tRet (tLst (tCons (tC (.str "none")) (tCons (tCB (rRepr X.K) (tCons (tXf e cls d a.C_NoDeed "value" (tVar 1)) tNil)) (tCons (tCB (rIsY X.K a.C_NoDeed e) (tCons (tVar 1) (tCons (tC (.ref a.C_TiedError)) tNil))) tNil))))) ?_ pins s1 σ H1 D I h1
    exact pss_one (ps_ret (by exact (pe_lst (pa_cons pe_str (pa_cons (cb_repr T.bi gu hr.units (pa_cons (pe_xf T.e_NoDeed.xf T.e_NoDeed.noN hz hf (pv 1)) pa_nil)) (pa_cons (pe_callB (call_isY hz hc) (by rfl) T.bi.isinstance boot_isi (pa_cons (pv 1) (pa_cons (pe_gr T.g_TiedError) pa_nil))) pa_nil))))))
  · refine ⟨fun cls d H' => ∃ d0 x sx, cls = .ref a.C_NoDeed ∧ d = some d0 ∧ H' d0 = some (.xd [("value", x)]) ∧ ShowsAs X.K H' x sx ∧ ∀ p H2, Same H' H2 → H2 p = some (.lst [.str "none", .str sx, .bl true]) → Q (.ref p) H2, ?_, rfl, hc, h⟩
    rintro cls d σ' H' ln ⟨d0, x, sx, rfl, rfl, hd, hs, k⟩
    refine ⟨true, T.te_NoDeed, fun _ a0 na => ?_, fun z => nomatch z⟩
    have at1 : (List.set σ' 1 (some (V.ref a0)))[1]? = some (some (V.ref a0)) := by
      rw [List.getElem?_set_self (by omega)]
    refine ⟨rfl, _, at1, rfl, rfl, d0, _, x, rfl, hd, rfl, hs.repr ?_⟩
    refine ⟨_, at1, a.C_TiedError, rfl, T.kb_NoDeed_TiedError, ?_⟩
    refine ⟨by show 3 ≤ sizeLine; decide, fun p hp => ?_⟩
    exact k p _ (sNew hp) upd_same
end Z
set_option maxRecDepth 100000
set_option maxHeartbeats 4000000
namespace Z
open PySem PySem.Spec PyProof.Rows L2
abbrev LT (a : Ad) (q : Str) : List (Addr × Str) := [(a.P_law, q ++ "<lambda>")]
theorem pe_tried {X : Cx} {a : Ad} {params : Arguments} {body : Expr} {scope : Scope} {t : XK → TE} {p lpos pos : Pos} (T : Tx X.prog X.K X.mg a) (gu : X.A.guards = some []) (hr : Room 13 X.A) (TB : LamX.TabB X.base X.mg a.cc_law a.P_law)
    (hcode : X.env.code = .ref a.cc_law) (hg : Gl X "_law_tried") (L : LamX.LamS X.env.scope scope) (hdef : defaultsOf params X.env = ([], []))
    (hbind : ∀ (q : Str) (cl : List (Str × Addr)) (pm cv ctv : Value), bindArgs (PySem.W.kla_fn "<lambda>" q params body scope cl pm cv ctv) ⟨[], []⟩ = pure [])
    (hbody : ∀ (A : Around) (outer : List Env) (s : Shared) (H : Hp) (E : XK) (f c' : Addr), Room 11 (A.deeper (LamX.lamEnv X scope s.heap.objs.size f c')) → PE (LamX.lamCx X A outer s H E scope f c') body (t E)) :
    PE X (.Call (.Name "_law_tried" p) [.Lambda params body scope lpos] [] pos) (LamX.tLam (LT a X.env.qual) (TTry X.K a.C_Deed a.C_Term a.C_NoDeed) t) := by
  obtain ⟨oc, od, kV, doc, pm, an, cdv, ct, osl, e, lk, code⟩ := T._law_tried.fn.ex
  have bd := T._law_tried.bd
  rw [e] at bd lk
  exact LamX.pe_lamcall hg T._law_tried.mg T._law_tried.fn.kp lk code bd sc__law_tried rfl (Or.inl rfl) (tried_gives T gu (hr.mono (by decide))) TB hcode (List.mem_singleton.mpr rfl)
    (fun p hp _ => by rw [List.mem_singleton.mp hp]) hr L hdef hbind hbody
theorem extN_tk {H H' : Hp} (x : LamX.ExtN H H') : TK H H' := ⟨fun b xs e => x b _ e (fun ps z => by cases z), fun b o u e => x b _ e (fun ps z => by cases z)⟩
theorem DeedAt.kept {K : PySem.W.Frag} {CD CT : Addr} {H H' : Hp} {p : Addr} {x : Str} {t : Tr} {b : Bool} (k : ∀ c C dx fs, H c = some (.ins C dx fs) → H' c = some (.ins C dx fs)) (tk : TK H H') (h : DeedAt K CD CT H p x t b) : DeedAt K CD CT H' p x t b := by
  obtain ⟨dx, q, h1, d, u, h2, h3, h4⟩ := h
  exact ⟨dx, q, k _ _ _ _ h1, d, u, k _ _ _ _ h2, tr_tk tk t h3, h4⟩
theorem tabs_but {T : List (Addr × Str)} {l : Addr} {H H' : Hp} (b : But l H H') (hP : PoolAt H l) (h : LamX.Tabs T H) : LamX.Tabs T H' := by
  obtain ⟨i, j, hl, _⟩ := hP
  intro p hp
  obtain ⟨ps, h1, h2, h3⟩ := h p hp
  refine ⟨ps, b _ _ (ne_of h1 hl (by intro z; cases z)) h1, h2, fun pos cv e => ?_⟩
  obtain ⟨c, e1, e2⟩ := h3 pos cv e
  exact ⟨c, e1, b _ _ (ne_of e2 hl (by unfold LamX.CodeO; intro z; cases z)) e2⟩
structure Lw (K : PySem.W.Frag) (a : Ad) (q : Str) (H : Hp) (l D G : Addr) (ps qs : List Addr) (es : List (Str × Tr × Bool)) : Prop where
  pool : PoolAt H l
  dl : D ≠ l
  gl : G ≠ l
  hD : H D = some (.lst (ps.map V.ref))
  hG : H G = some (.lst (qs.map V.ref))
  ents : Ents K H ps es
  len : qs.length = es.length
  deeds : ∀ (j : Nat) (p : Addr) (e : Str × Tr × Bool), qs[j]? = some p → es[j]? = some e → DeedAt K a.C_Deed a.C_Term H p e.1 e.2.1 e.2.2
  tabs : LamX.Tabs (LT a q) H
section
variable {K : PySem.W.Frag} {a : Ad} {q : Str} {H H' : Hp} {l D G : Addr} {ps qs : List Addr} {es : List (Str × Tr × Bool)}
theorem Lw.but (w : Lw K a q H l D G ps qs es) (b : But l H H') (P : PoolAt H' l) : Lw K a q H' l D G ps qs es := by
  have w0 := w.pool
  obtain ⟨i, j, hl, _⟩ := w0
  exact ⟨P, w.dl, w.gl, b _ _ w.dl w.hD, b _ _ w.gl w.hG, w.ents.but b w.pool, w.len, fun j p e h1 h2 => (w.deeds j p e h1 h2).kept (fun c C dx fs h => b _ _ (ne_of h hl (by intro z; cases z)) h) (b.tk hl), tabs_but b w.pool w.tabs⟩
theorem Lw.same (w : Lw K a q H l D G ps qs es) (s : Same H H') : Lw K a q H' l D G ps qs es := w.but (But.same s l) (w.pool.same s)
theorem Lw.ext (w : Lw K a q H l D G ps qs es) (x : LamX.ExtN H H') (t : LamX.Tabs (LT a q) H') : Lw K a q H' l D G ps qs es := by
  have nt : ∀ {b : Addr} {o : HO}, H b = some o → (∀ ps, o ≠ .tbl ps) → H' b = some o := fun h n => x _ _ h n
  obtain ⟨i, j, hl, hp⟩ := w.pool
  exact ⟨⟨i, j, nt hl (fun ps z => by cases z), hp⟩, w.dl, w.gl, nt w.hD (fun ps z => by cases z), nt w.hG (fun ps z => by cases z), w.ents.tk (extN_tk x), w.len, fun j p e h1 h2 => (w.deeds j p e h1 h2).kept (fun c C dx fs h => nt h (fun ps z => by cases z)) (extN_tk x), t⟩
end
end Z
set_option maxRecDepth 100000
set_option maxHeartbeats 4000000
namespace Z
open PySem PySem.Spec PyProof.Rows L2
def entD (x : Str) (t : Tr) (b : Bool) : PyData := .tuple [.str x, .bool b, t.d]
theorem EntryAt.dp {K : PySem.W.Frag} {H : Hp} {p : Addr} {x : Str} {t : Tr} {b : Bool} (h : EntryAt K H p x t b) : Dp K H (.ref p) (entD x t b) := by
  obtain ⟨v, sq, hv, _⟩ := h
  exact .tup sq (.cons (.str x) (.cons (.bl b) (.cons hv .nil)))
theorem eqv_ent (x x' : Str) (t t' : Tr) (b b' : Bool) : PyData.eqv (entD x t b) (entD x' t' b') = (decide (x = x') && (decide (b = b') && decide (t = t'))) := by
  simp only [entD, PyData.eqv, PyData.eqvAll, eqv_tr, Bool.and_true, Bool.beq_eq_decide_eq]
theorem shaped_ent {x : Str} {t : Tr} {b : Bool} (hx : Word x) (ht : t.Ok) (hd : t.deep ≤ 3) : SeqAt.shaped (entD x t b) = true := by
  have h1 := canLay_tr t ht
  have h2 := d_depth t
  have h3 := word_strOk hx
  unfold SeqAt.shaped entD
  simp only [PyData.canLay0, PyData.canLayAll0, PyData.depth, PyData.depthAll, h1, h3, Bool.and_true, Bool.true_and]
  exact decide_eq_true (by omega)
theorem eqEnt {K : PySem.W.Frag} {H : Hp} {Q : VK} {p p' : Addr} {x x' : Str} {t t' : Tr} {b b' : Bool} (h : EntryAt K H p x t b) (h' : EntryAt K H p' x' t' b') (q : Q (.bl (decide (x = x') && (decide (b = b') && decide (t = t')))) H) : rEqX K (.ref p) (.ref p') H Q := by
  have h0 := h
  have h0' := h'
  obtain ⟨_, _, _, e1, e2, e3⟩ := h0
  obtain ⟨_, _, _, f1, f2, f3⟩ := h0'
  exact ⟨.inr (.inr ⟨_, _, h.dp, h'.dp, shaped_ent e1 e2 e3, shaped_ent f1 f2 f3, by rw [eqv_ent]; exact q⟩)⟩
def Ech (K : PySem.W.Frag) (CN : Addr) (Q : VK) : XK := fun cls d H' => ∃ d0 x sx, cls = .ref CN ∧ d = some d0 ∧ H' d0 = some (.xd [("value", x)]) ∧ ShowsAs K H' x sx ∧ ∀ p H2, Same H' H2 → H2 p = some (.lst [.str "none", .str sx, .bl true]) → Q (.ref p) H2
def Told (K : PySem.W.Frag) (CD CT : Addr) (Q : VK) : VK := fun v H' => spTold K CD CT [v] H' Q L2.E0
section
variable {K : PySem.W.Frag} {CD CT CN : Addr} {Q : VK} {H : Hp}
theorem ttry {tl : XK → Hp → VK → Prop} (h : tl (Ech K CN Q) H (Told K CD CT Q)) : TTry K CD CT CN tl H Q := h
theorem ech_fl {x : V} {sx : Str} (hs : ShowsAs K H x sx) (k : ∀ p H2, Same H H2 → H2 p = some (.lst [.str "none", .str sx, .bl true]) → Q (.ref p) H2) : Flies (Ech K CN Q) CN H x := by
  intro d H1 s1 nd
  have s2 : Same H (upd H1 d (.xd [("value", x)])) := s1.trans (sNew nd)
  exact ⟨d, x, sx, rfl, rfl, upd_same, hs.same s2, fun p H2 s3 h => k p H2 (s2.trans s3) h⟩
theorem tried_of {z : Str} (pz : Plain z 181) (k : ∀ r H2, Same H H2 → H2 r = some (.lst (douts (dparts z) z)) → Q (.ref r) H2) : spDOf K CD CT CN [.str z] H (Told K CD CT Q) (Ech K CN Q) := by
  have sl := sl10
  have hz := pz.1
  refine ⟨_, rfl, .inl ⟨z, rfl, by omega, fun e => ?_, fun y t b e p H1 s1 da => ?_⟩⟩
  · refine ech_fl (pz.shows (by decide)) fun p H2 s2 h => k p H2 s2 ?_
    rw [e]
    exact h
  · obtain ⟨hw, hok, hd, ez⟩ := dparts_some e
    refine ⟨p, y, t, b, rfl, da, hw, hd, fun q H2 s2 h => k q H2 (s1.trans s2) ?_⟩
    rw [e, ← ez]
    exact h
theorem tried_non (k : ∀ r H2, Same H H2 → H2 r = some (.lst [V.str "none", .str "None", .bl true]) → Q (.ref r) H2) : spDOf K CD CT CN [.non] H (Told K CD CT Q) (Ech K CN Q) := by
  refine ⟨_, rfl, .inr ⟨"NoneType", .base .non, by decide +kernel, ech_fl (sx := "None") (.inl ⟨_, .non, by simp [PyData.showable], by simp [PyData.depth], by simp only [PyData.shown]; decide +kernel, by simp only [PyData.shown]⟩) k⟩⟩
theorem tried_bad {x y z v : V} {wb : Bool} {r : Option Tr} {lb : Option Bool} {sx : Str} {o dx : Addr} (ho : H o = none) (hdx : H dx = none) (hx : WQ K H x wb) (hy : PO K CT H y r) (hz : LQ K H z lb) (hs : ShowsAs K H v sx)
    (bad : (wb = false ∧ v = x) ∨ (wb = true ∧ r = none ∧ v = y) ∨ (wb = true ∧ r.isSome = true ∧ lb = none ∧ v = z)) (k : ∀ p H2, Same H H2 → H2 p = some (.lst [V.str "none", .str sx, .bl true]) → Q (.ref p) H2) :
    spDInit K CD CT CN [.ref o, x, y, z] (upd (upd H dx (.own o)) o (.ins CD dx [])) (fun v H2 => v = .non ∧ Told K CD CT Q (.ref o) H2) (Ech K CN Q) := by
  have fl : Flies (Ech K CN Q) CN H v := ech_fl hs k
  refine make_deed ho hdx hx hy hz (fun e => ?_) (fun e e' => ?_) (fun e t e' e'' => ?_) fun s t b H' e1 e2 e3 e4 s2 da => ?_
  · rcases bad with ⟨_, rfl⟩ | ⟨h, _⟩ | ⟨h, _⟩
    · exact fl
    · rw [e] at h; cases h
    · rw [e] at h; cases h
  · rcases bad with ⟨h, _⟩ | ⟨_, _, rfl⟩ | ⟨_, h, _⟩
    · rw [e] at h; cases h
    · exact fl
    · rw [e'] at h; cases h
  · rcases bad with ⟨h, _⟩ | ⟨_, h, _⟩ | ⟨_, _, _, rfl⟩
    · rw [e] at h; cases h
    · rw [e'] at h; cases h
    · exact fl
  · exfalso
    rcases bad with ⟨h, _⟩ | ⟨_, h, _⟩ | ⟨_, _, h, _⟩
    · rw [h] at hx
      generalize hb : false = b0 at hx
      cases hx with
      | str z' hz' =>
        cases e1
        rw [wordB_iff.mpr e2] at hb
        cases hb
      | oth hh hk =>
        cases e1
        cases hh with
        | base hh => cases hh; revert hk; decide +kernel
    · rw [e3] at h; cases h
    · rw [e4] at h; cases h
theorem flat3 (sx : Str) : ∀ v ∈ [V.str "none", .str sx, .bl true], Flat1 v := by
  intro v hv
  simp only [List.mem_cons, List.not_mem_nil, or_false] at hv
  rcases hv with rfl | rfl | rfl
  · exact .inl ⟨_, rfl⟩
  · exact .inl ⟨_, rfl⟩
  · exact .inr ⟨_, rfl⟩
theorem sh_non : ShowsAs K H .non (PyData.none).shown := .inl ⟨_, .non, by simp [PyData.showable], by simp [PyData.depth], by simp only [PyData.shown]; decide +kernel, rfl⟩
theorem sh_bl (b : Bool) : ShowsAs K H (.bl b) (PyData.bool b).shown := .inl ⟨_, .bl b, by simp [PyData.showable], by simp [PyData.depth], by simp only [PyData.shown]; cases b <;> decide +kernel, rfl⟩
theorem sh_int {n : Int} (h : 0 ≤ n ∧ n ≤ 10) : ShowsAs K H (.int n) (PyData.int n).shown := by
  obtain ⟨m, rfl⟩ := Int.eq_ofNat_of_zero_le h.1
  have hm : m ≤ 10 := by omega
  refine .inl ⟨_, .int _, ?_, by simp [PyData.depth], ?_, rfl⟩
  · simp only [PyData.showable]
    have : ∀ m ≤ 10, (PyData.int ((m : Nat) : Int)).showable = true := by decide +kernel
    have := this m hm
    simpa only [PyData.showable] using this
  · have : ∀ m ≤ 10, (PyData.int ((m : Nat) : Int)).shown.length ≤ sizeLine := by decide +kernel
    exact this m hm
theorem sh_ta {pt : Addr} (h : H pt = some (.tup [V.str "a"])) : ShowsAs K H (.ref pt) (PyData.tuple [.str "a"]).shown :=
  .inl ⟨_, .tup (.inl (.inl h)) (.cons (.str _) .nil), by simp only [PyData.showable, PyData.showableAll]; decide +kernel, by simp [PyData.depth, PyData.depthAll], by simp only [PyData.shown, PyData.shownAll]; decide +kernel, rfl⟩
theorem sh_tx {z : Str} (h : z.length ≤ 100) (h2 : (ls z).all (fun c => decide (c < 16 ^ 8)) = true) : ShowsAs K H (.str z) (reprText z) :=
  Plain.shows (n := 100) ⟨h, fun c hc => of_decide_eq_true (List.all_eq_true.mp h2 c hc)⟩ (by decide)
def BadW (K : PySem.W.Frag) (H : Hp) (v : V) : Prop := WQ K H v false ∧ ∃ s, ShowsAs K H v s
def BadT (K : PySem.W.Frag) (CT : Addr) (H : Hp) (v : V) : Prop := PO K CT H v none ∧ ∃ s, ShowsAs K H v s
def BadL (K : PySem.W.Frag) (H : Hp) (v : V) : Prop := LQ K H v none ∧ ∃ s, ShowsAs K H v s
theorem wq_bad {z : Str} (h : z.length ≤ 100) (e : wordB (ls z) = false) : WQ K H (.str z) false := by
  have sl := sl10
  rw [← e]
  exact .str z (by omega)
theorem badW {pt : Addr} (h : H pt = some (.tup [V.str "a"])) : ∀ v ∈ [V.non, .str "A", .str "", .int 5, .bl true, .str "abcdefghi", .ref pt], BadW K H v := by
  intro v hv
  simp only [List.mem_cons, List.not_mem_nil, or_false] at hv
  rcases hv with rfl | rfl | rfl | rfl | rfl | rfl | rfl
  · exact ⟨.oth (.base .non) (by decide +kernel : kitB "NoneType" "str" = some false), _, sh_non⟩
  · exact ⟨wq_bad (by decide +kernel) (by decide +kernel), _, sh_tx (by decide +kernel) (by decide +kernel)⟩
  · exact ⟨wq_bad (by decide +kernel) (by decide +kernel), _, sh_tx (by decide +kernel) (by decide +kernel)⟩
  · exact ⟨.oth (.base (.int 5)) (by decide +kernel : kitB "int" "str" = some false), _, sh_int (by decide)⟩
  · exact ⟨.oth (.base (.bl true)) (by decide +kernel : kitB "bool" "str" = some false), _, sh_bl true⟩
  · exact ⟨wq_bad (by decide +kernel) (by decide +kernel), _, sh_tx (by decide +kernel) (by decide +kernel)⟩
  · exact ⟨.oth (.base (.tup h)) (by decide +kernel : kitB "tuple" "str" = some false), _, sh_ta h⟩
theorem po_bad {C : Addr} {z : Str} (h : z.length ≤ 100) (e : planOf z = none) : PO K C H (.str z) none := by
  have sl := sl10
  rw [← e]
  exact .str z (by omega)
theorem badL : ∀ v ∈ [V.non, .int 0, .int 1, .str "no"], BadL K H v := by
  intro v hv
  simp only [List.mem_cons, List.not_mem_nil, or_false] at hv
  rcases hv with rfl | rfl | rfl | rfl
  · exact ⟨.oth (.base .non) (by decide +kernel : kitB "NoneType" "bool" = some false), _, sh_non⟩
  · exact ⟨.oth (.base (.int 0)) k_ib, _, sh_int (by decide)⟩
  · exact ⟨.oth (.base (.int 1)) k_ib, _, sh_int (by decide)⟩
  · exact ⟨.oth (.base (.str _)) (by decide +kernel : kitB "str" "bool" = some false), _, sh_tx (by decide +kernel) (by decide +kernel)⟩
end
section
variable {P : Program} {w : World} {K : PySem.W.Frag} {mg : Str → Option Value} {base : Heap} {a : Ad} {H : Hp}
theorem badT (T : Tx P K mg a) {pt : Addr} (h : H pt = some (.tup [V.str "a"])) : ∀ v ∈ [V.non, .bl true, .str "A b", .int 10, .str "abcdefghi", .ref pt], BadT K a.C_Term H v := by
  intro v hv
  simp only [List.mem_cons, List.not_mem_nil, or_false] at hv
  rcases hv with rfl | rfl | rfl | rfl | rfl | rfl
  · exact ⟨.oth (.base .non) (by decide +kernel : kitB "NoneType" "int" = some false) (by decide +kernel : kitB "NoneType" "bool" = some false) rfl (by decide +kernel) T.kit_Term_NoneType, _, sh_non⟩
  · exact ⟨.oth (.base (.bl true)) (by decide +kernel : kitB "bool" "int" = some true) (by decide +kernel : kitB "bool" "bool" = some true) rfl (by decide +kernel) T.kit_Term_bool, _, sh_bl true⟩
  · exact ⟨po_bad (by decide +kernel) (by decide +kernel), _, sh_tx (by decide +kernel) (by decide +kernel)⟩
  · have e := PO.int (K := K) (C := a.C_Term) (H := H) 10
    rw [if_neg (by decide)] at e
    exact ⟨e, _, sh_int (by decide)⟩
  · exact ⟨po_bad (by decide +kernel) (by decide +kernel), _, sh_tx (by decide +kernel) (by decide +kernel)⟩
  · exact ⟨.oth (.base (.tup h)) (by decide +kernel : kitB "tuple" "int" = some false) (by decide +kernel : kitB "tuple" "bool" = some false) rfl (by decide +kernel) T.kit_Term_tuple, _, sh_ta h⟩
end
end Z
set_option maxRecDepth 100000
set_option maxHeartbeats 8000000
namespace Z
open PySem PySem.Spec PyProof.Rows L2
theorem pg_tupK {X : Cx} {es : List Expr} {k n : Nat} {t : TGs} {pos : Pos} {K : PySem.W.Frag} (hc : X.calm = true) (h : PGs X es t) (hk : X.K = K := by rfl)
    (hn : (assignEach es X.env).length = n := by rfl) (hst : (assignEach es X.env).findIdx? (·.1) = none := by rfl) : PG X (.Tuple es k pos) (gTup K n t) := by
  subst hk
  exact pg_tup hc h hn hst
theorem get_ref {ps : List Addr} {m : Nat} {x : V} (h : (ps.map V.ref)[m]? = some x) : ∃ p, ps[m]? = some p ∧ x = .ref p := by
  rw [List.getElem?_map] at h
  cases hq : ps[m]? with
  | none => rw [hq] at h; cases h
  | some p => rw [hq] at h; cases h; exact ⟨p, rfl, rfl⟩
theorem sql_ext {K : PySem.W.Frag} {H H' : Hp} {p : Addr} {xs : List V} (x : LamX.ExtN H H') (h : SqL K H p xs) : SqL K H' p xs := by
  rcases h with (h | ⟨o, h⟩) | h
  · exact .inl (.inl (x _ _ h (fun ps z => by cases z)))
  · exact .inl (.inr ⟨o, x _ _ h (fun ps z => by cases z)⟩)
  · exact .inr h
section
variable {P : Program} {w : World} {K : PySem.W.Frag} {mg : Str → Option Value} {base : Heap} {a : Ad}
def spLaw (K : PySem.W.Frag) (c PT : Addr) : Sp := fun vs H Q _ => ∃ (sa : Addr) (ns : List Int), vs = [.ref sa] ∧ SqL K H sa (ns.map V.int) ∧ (∀ z ∈ ns, Builtin.Int.intBits z ≤ 1048576) ∧ H PT = some (.tbl #[]) ∧ ∀ H', Q (.bl true) H'
theorem ok_law (T : Tx P K mg a) (TB : LamX.TabB base mg a.cc_law a.P_law) : FnG P w K mg base CX0 30 a.f_law a.d_law ["script"] (spLaw K a.cc_law a.P_law) := by
  have Mp : FnOk P w K mg base CX0 1 a.f__law_pool a.d__law_pool ["script", "k"] (spPool K) := ok_pool T
  have Mw : FnOk P w K mg base CX0 3 a.f__law_words a.d__law_words ["pool", "bound"] (spWords K) := ok_words T
  have Md : FnOk P w K mg base CX0 7 a.f__law_deeds_drawn a.d__law_deeds_drawn ["pool", "written", "words", "digits", "bound", "deep"] (spDrawn K) := ok_drawn T
  have Mi : FnOk P w K mg base (L2.CX P w) 9 a.f_Deed___init__ a.d_Deed___init__ ["self", "variable", "term", "late"] (spDInit K a.C_Deed a.C_Term a.C_NoDeed) := ok_dinit T
  have Mt : FnOk P w K mg base CX0 4 a.f__law_tree_text a.d__law_tree_text ["tree"] (spText K 3) := ok_ltext T 3
  have Me : FnOk P w K mg base CX0 5 a.f__law_deed_text a.d__law_deed_text ["deed"] (spDText K) := ok_dtext T
  have Mo : FnOk P w K mg base CX0 10 a.f__law_told a.d__law_told ["deed"] (spTold K a.C_Deed a.C_Term) := ok_told T
  have Mf : FnOk P w K mg base (L2.CX P w) 11 a.f_Deed_of a.d_Deed_of ["text"] (spDOf K a.C_Deed a.C_Term a.C_NoDeed) := ok_dof T
  have Mq : FnOk P w K mg base CX0 3 a.f_Deed___eq__ a.d_Deed___eq__ ["self", "other"] (spDEq K a.C_Deed a.C_Term) := ok_deq T
  have Ml : FnOk P w K mg base CX0 11 a.f_Deed_delayed a.d_Deed_delayed ["self"] (spDDel K a.C_Deed a.C_Term) := ok_ddel T
  have Mb : FnOk P w K mg base CX0 3 a.f__law_bent a.d__law_bent ["pool", "text"] spBent := ok_bent T
  have Mu : FnG P w K mg base CX0 11 a.f__law_due a.d__law_due ["text"] (spDue K) := ok_due T
  have MT : FnOk P w K mg base (L2.CX P w) 7 a.f_Term___init__ a.d_Term___init__ ["self", "value"] (spInit K a.C_Term a.C_NoTerm) := ok_init T
  have isE : PySem.W.isFn K (.ref a.f_Deed___eq__) = true := T.m_Deed___eq__.fn
  refine okGC T.law.fn sc_law (fun vs H Q E h => ?_) (fun A outer s H vs Q E hr gu h => ?_)
  · obtain ⟨sa, ns, rfl, _⟩ := h
    rfl
  · obtain ⟨sa, ns, rfl, hs, hb, hT, k⟩ := h
    have nd := sc_law.nd
    have hu : _ + 64 < cLine := hr.units
    have hc : (envOfC "law" (defScope s_law) s.heap.objs.size a.f_law a.d_law.code).code = .ref a.cc_law := T.cv_law
    have hr1 : Room 1 _ := hr.mono (by decide)
    have hr3 : Room 3 _ := hr.mono (by decide)
    have hr13 : Room 13 _ := hr.mono (by decide)
    refine ⟨_, (pss_cons (ps_for (passes_of rfl) rfl (pi_range1 rfl T.bi.range (pa_cons (cb_max T.bi (pa_cons pe_int (pa_cons (cb_min T.bi (pa_cons pe_int (pa_cons (cb_len T.bi (pa_cons (pv 0) pa_nil)) pa_nil))) pa_nil))) pa_nil)) (pg_name (i := 1) nd rfl (Or.inl rfl))
      (pss_cons (ps_set (i := 2) nd rfl (Or.inl rfl) (pe_cf T._law_pool Mp hr1 (pa_cons (pv 0) (pa_cons (pv 1) pa_nil))))
      (pss_cons (ps_set (i := 3) nd rfl (Or.inl rfl) (pe_cf T._law_words Mw hr3 (pa_cons (pv 2) (pa_cons pe_int pa_nil))))
      (pss_cons (ps_set (i := 4) nd rfl (Or.inl rfl) (pe_cf T._law_deeds_drawn Md (hr.mono (by decide)) (pa_cons (pv 2) (pa_cons (pv 3) (pa_cons (pv 3) (pa_cons (pe_lst (pa_cons pe_int (pa_cons pe_int pa_nil))) (pa_cons pe_int (pa_cons pe_int pa_nil))))))))
      (pss_cons (ps_set (i := 5) nd rfl (Or.inr rfl) (pe_lc (own := [("entry", 7)]) (by rfl) nd (pi_list (pv 4)) (blkOk_by (own := [("entry", 7)]) (N := ["script", "k", "pool", "words", "entries", "deeds", "near", "entry", "text", "tree", "turn", "bent", "thing", "far", "other"]) (sc := defScope s_law) (by decide +kernel)) (fun _ _ _ _ _ => (pg_name (i := 7) nd rfl (Or.inl rfl))) (fun _ _ _ _ _ => pts_nil) (fun _ _ _ _ _ => (pe_makeK (n := 2) T.mk_Deed Mi (hr.mono (by decide)) rfl T.g_Deed T.kb_Deed___init__ passL (pa_cons (pe_ix ix_A (pv 7) pe_int (fun _ _ => rfl)) (pa_cons (pe_cf T._law_tree_text Mt (hr.mono (by decide)) (pa_cons (pe_ix ix_A (pv 7) pe_int (fun _ _ => rfl)) pa_nil)) pa_nil)) (pk_cons (pe_ix ix_A (pv 7) pe_int (fun _ _ => rfl)) pk_nil)))))
      (pss_one (ps_for (passes_of rfl) rfl (pi_enum rfl T.bi.enumerate (pa_cons (pv 4) pa_nil)) (pg_tup rfl (pgs_cons (pg_name (i := 6) nd rfl (Or.inr rfl)) (pgs_cons (pg_name (i := 7) nd rfl (Or.inr rfl)) pgs_nil)))
        (pss_cons (ps_asg (pe_tup (pa_cons (pe_cf T._law_deed_text Me (hr.mono (by decide)) (pa_cons (pv 7) pa_nil)) (pa_cons (pe_cf T._law_tree_text Mt (hr.mono (by decide)) (pa_cons (pe_ix ix_A (pv 7) pe_int (fun _ _ => rfl)) pa_nil)) pa_nil))) (pg_tup rfl (pgs_cons (pg_name (i := 8) nd rfl (Or.inl rfl)) (pgs_cons (pg_name (i := 9) nd rfl (Or.inr rfl)) pgs_nil))))
        (pss_cons (ps_if (pt_cmpR (op_neSame hr) (pe_cf T._law_told Mo (hr.mono (by decide)) (pa_cons (pe_ix ix_A (pv 5) (pv 6) (fun _ _ => rfl)) pa_nil)) (pe_lst (pa_cons (pe_ix ix_A (pv 7) pe_int (fun _ _ => rfl)) (pa_cons (pv 9) (pa_cons (pe_ix ix_A (pv 7) pe_int (fun _ _ => rfl)) (pa_cons (pv 8) pa_nil))))) (nomark _)) (pss_one (ps_ret pe_bl)) pss_nil)
        (pss_cons (ps_if (pt_cmpR (op_neOwn Mq T.ne_Deed T.m_Deed___eq__.at_ T.mo_Deed isE T.b_Deed___eq__ pass0 (hr.mono (by decide))) (pe_sta (pe_gr T.g_Deed) T.m_Deed_of Mf (hr.mono (by decide)) T.b_Deed_of passL (pa_cons (pv 8) pa_nil)) (pe_ix ix_A (pv 5) (pv 6) (fun _ _ => rfl)) (nomark _)) (pss_one (ps_ret pe_bl)) pss_nil)
        (pss_cons (ps_if (pt_cmpR (op_neSame hr) (pe_cf T._law_told Mo (hr.mono (by decide)) (pa_cons (pe_meth0 (pe_ix ix_A (pv 5) (pv 6) (fun _ _ => rfl)) T.c_Deed T.m_Deed_delayed Ml (hr.mono (by decide)) T.b_Deed_delayed .nil pass0) pa_nil)) (pe_lst (pa_cons (pe_ix ix_A (pv 7) pe_int (fun _ _ => rfl)) (pa_cons (pv 9) (pa_cons pe_bl (pa_cons (pe_cf T._law_deed_text Me (hr.mono (by decide)) (pa_cons (pe_tup (pa_cons (pe_ix ix_A (pv 7) pe_int (fun _ _ => rfl)) (pa_cons pe_bl (pa_cons (pe_ix ix_A (pv 7) pe_int (fun _ _ => rfl)) pa_nil)))) pa_nil)) pa_nil))))) (nomark _)) (pss_one (ps_ret pe_bl)) pss_nil)
        (pss_cons (ps_if (pt_cmpR (op_neX hr) (pe_lc (own := [("far", 13), ("other", 14)]) (by rfl) nd (pi_enum rfl T.bi.enumerate (pa_cons (pv 4) pa_nil)) (blkOk_by (own := [("far", 13), ("other", 14)]) (N := ["script", "k", "pool", "words", "entries", "deeds", "near", "entry", "text", "tree", "turn", "bent", "thing", "far", "other"]) (sc := defScope s_law) (by decide +kernel)) (fun _ _ _ _ _ => (pg_tupK (K := K) (n := 2) rfl (pgs_cons (pg_name (i := 13) nd rfl (Or.inl rfl) (Or.inr rfl)) (pgs_cons (pg_name (i := 14) nd rfl (Or.inl rfl) (Or.inr rfl)) pgs_nil)))) (fun _ _ _ _ _ => pts_one (pt_cmpR (op_neX (K := K) hr) (pe_cmpR (op_eqOwn Mq T.nf_Deed T.m_Deed___eq__.at_ isE T.b_Deed___eq__ pass0 hr3) (pe_ix (ix_A (K := K)) (pv 5) (pv 6) (fun _ _ => rfl)) (pe_ix (ix_A (K := K)) (pv 5) (pv 13) (fun _ _ => rfl)) (nomark _)) (pe_cmpR (op_eqX (K := K) hr) (pv 7) (pv 14) (nomark _)) (nomark _))) (fun _ _ _ _ _ => (pv 13))) (pe_lst pa_nil) (nomark _)) (pss_one (ps_ret pe_bl)) pss_nil)
        (pss_cons (ps_for (passes_of rfl) rfl (pi_range1 rfl T.bi.range (pa_cons pe_int pa_nil)) (pg_name (i := 10) nd rfl (Or.inl rfl))
          (pss_cons (ps_set (i := 11) nd rfl (Or.inr rfl) (pe_cf T._law_bent Mb hr3 (pa_cons (pv 2) (pa_cons (pv 8) pa_nil))))
          (pss_one (ps_if (pt_cmpR (op_neSame hr) (pe_tried T gu hr13 TB hc rfl (show LamX.LamS (defScope s_law) _ from LamX.lamS_by (by decide +kernel)) rfl (fun _ _ _ _ _ => rfl) (t := fun E => tSta a.C_Deed (spDOf K a.C_Deed a.C_Term a.C_NoDeed) E (tC (.ref a.C_Deed)) (tCons (tVar 11) tNil)) (fun A outer s H E f c' hr' => pe_sta (pe_gr T.g_Deed) T.m_Deed_of Mf hr' T.b_Deed_of (passes_call (takes_of rfl rfl rfl rfl) (fun _ _ _ _ h => h)) (pa_cons (pv 11) pa_nil))) (pe_cfG T._law_due Mu (hr.mono (by decide)) gu (pa_cons (pv 11) pa_nil)) (nomark _)) (pss_one (ps_ret pe_bl)) pss_nil))))
        (pss_cons (ps_for (passes_of rfl) rfl (pi_list (pe_lst (pa_cons pe_non (pa_cons pe_str (pa_cons pe_str (pa_cons pe_int (pa_cons pe_bl (pa_cons pe_str (pa_cons (pe_tup (pa_cons pe_str pa_nil)) pa_nil))))))))) (pg_name (i := 12) nd rfl (Or.inr rfl))
          (pss_one (ps_if (pt_cmpR (op_neSame hr) (pe_tried T gu hr13 TB hc rfl (show LamX.LamS (defScope s_law) _ from LamX.lamS_by (by decide +kernel)) rfl (fun _ _ _ _ _ => rfl) (t := fun E => tMakeK a.C_Deed 2 (["late"] : List Str).length (spDInit K a.C_Deed a.C_Term a.C_NoDeed) (fun (vs zs : List V) => vs ++ zs) E (tCons (tVar 12) (tCons (tC .non) tNil)) (tCons (tC (.int 3)) tNil)) (fun A outer s H E f c' hr' => pe_makeK (n := 2) T.mk_Deed Mi (hr'.mono (by decide)) rfl T.g_Deed T.kb_Deed___init__ (passes_call (takes_of rfl rfl rfl rfl) (fun _ _ _ _ h => h)) (pa_cons (pv 12) (pa_cons pe_non pa_nil)) (pk_cons pe_int pk_nil))) (pe_lst (pa_cons pe_str (pa_cons (cb_repr T.bi gu hu (pa_cons (pv 12) pa_nil)) (pa_cons pe_bl pa_nil)))) (nomark _)) (pss_one (ps_ret pe_bl)) pss_nil)))
        (pss_cons (ps_for (passes_of rfl) rfl (pi_list (pe_lst (pa_cons pe_non (pa_cons pe_bl (pa_cons pe_str (pa_cons pe_int (pa_cons pe_str (pa_cons (pe_tup (pa_cons pe_str pa_nil)) pa_nil)))))))) (pg_name (i := 12) nd rfl (Or.inr rfl))
          (pss_one (ps_if (pt_cmpR (op_neSame hr) (pe_tried T gu hr13 TB hc rfl (show LamX.LamS (defScope s_law) _ from LamX.lamS_by (by decide +kernel)) rfl (fun _ _ _ _ _ => rfl) (t := fun E => tMakeK a.C_Deed 2 (["late"] : List Str).length (spDInit K a.C_Deed a.C_Term a.C_NoDeed) (fun (vs zs : List V) => vs ++ zs) E (tCons (tOp (rIxA K) (tVar 7) (tC (.int 0))) (tCons (tVar 12) tNil)) (tCons (tC .non) tNil)) (fun A outer s H E f c' hr' => pe_makeK (n := 2) T.mk_Deed Mi (hr'.mono (by decide)) rfl T.g_Deed T.kb_Deed___init__ (passes_call (takes_of rfl rfl rfl rfl) (fun _ _ _ _ h => h)) (pa_cons (pe_ix ix_A (pv 7) pe_int (fun _ _ => rfl)) (pa_cons (pv 12) pa_nil)) (pk_cons pe_non pk_nil))) (pe_lst (pa_cons pe_str (pa_cons (cb_repr T.bi gu hu (pa_cons (pv 12) pa_nil)) (pa_cons pe_bl pa_nil)))) (nomark _)) (pss_one (ps_ret pe_bl)) pss_nil)))
        (pss_cons (ps_for (passes_of rfl) rfl (pi_list (pe_lst (pa_cons pe_non (pa_cons pe_int (pa_cons pe_int (pa_cons pe_str pa_nil)))))) (pg_name (i := 12) nd rfl (Or.inr rfl))
          (pss_one (ps_if (pt_cmpR (op_neSame hr) (pe_tried T gu hr13 TB hc rfl (show LamX.LamS (defScope s_law) _ from LamX.lamS_by (by decide +kernel)) rfl (fun _ _ _ _ _ => rfl) (t := fun E => tMakeK a.C_Deed 2 (["late"] : List Str).length (spDInit K a.C_Deed a.C_Term a.C_NoDeed) (fun (vs zs : List V) => vs ++ zs) E (tCons (tOp (rIxA K) (tVar 7) (tC (.int 0))) (tCons (tMake a.C_Term (spInit K a.C_Term a.C_NoTerm) [] L2.E0 (tCons (tVar 9) tNil)) tNil)) (tCons (tVar 12) tNil)) (fun A outer s H E f c' hr' => pe_makeK (n := 2) T.mk_Deed Mi (hr'.mono (by decide)) rfl T.g_Deed T.kb_Deed___init__ (passes_call (takes_of rfl rfl rfl rfl) (fun _ _ _ _ h => h)) (pa_cons (pe_ix ix_A (pv 7) pe_int (fun _ _ => rfl)) (pa_cons (pe_make T.mk_Term MT (hr'.mono (by decide)) rfl T.g_Term T.b_Term___init__ .nil passL (pa_cons (pv 9) pa_nil)) pa_nil)) (pk_cons (pv 12) pk_nil))) (pe_lst (pa_cons pe_str (pa_cons (cb_repr T.bi gu hu (pa_cons (pv 12) pa_nil)) (pa_cons pe_bl pa_nil)))) (nomark _)) (pss_one (ps_ret pe_bl)) pss_nil)))
        (pss_cons (ps_if (pt_cmpR (op_eqOwn Mq T.nf_Deed T.m_Deed___eq__.at_ isE T.b_Deed___eq__ pass0 hr3) (pe_ix ix_A (pv 5) (pv 6) (fun _ _ => rfl)) (pv 8) (nomark _)) (pss_one (ps_ret pe_bl)) pss_nil)
        (pss_one (ps_if (pt_cmpR (op_neSame hr) (pe_tried T gu hr13 TB hc rfl (show LamX.LamS (defScope s_law) _ from LamX.lamS_by (by decide +kernel)) rfl (fun _ _ _ _ _ => rfl) (t := fun E => tSta a.C_Deed (spDOf K a.C_Deed a.C_Term a.C_NoDeed) E (tC (.ref a.C_Deed)) (tCons (tC .non) tNil)) (fun A outer s H E f c' hr' => pe_sta (pe_gr T.g_Deed) T.m_Deed_of Mf hr' T.b_Deed_of (passes_call (takes_of rfl rfl rfl rfl) (fun _ _ _ _ h => h)) (pa_cons pe_non pa_nil))) (pe_lst (pa_cons pe_str (pa_cons pe_str (pa_cons pe_bl pa_nil)))) (nomark _)) (pss_one (ps_ret pe_bl)) pss_nil)))))))))))))))))))
      (pss_one (ps_ret pe_bl))), ?_⟩
    refine ⟨_, rfl, lenL hs (min2 ?_)⟩
    refine max2 ?_
    have hm : ∀ n : Nat, (if (if ((n : Nat) : Int) < 10 then ((n : Nat) : Int) else 10) > 1 then (if ((n : Nat) : Int) < 10 then ((n : Nat) : Int) else 10) else 1) ≤ 10 ∧ (0 : Int) ≤ (if (if ((n : Nat) : Int) < 10 then ((n : Nat) : Int) else 10) > 1 then (if ((n : Nat) : Int) < 10 then ((n : Nat) : Int) else 10) else 1) := fun n => by
      split <;> (try split) <;> omega
    obtain ⟨m1, m2⟩ := hm (ns.map V.int).length
    refine ⟨_, rfl, by omega, by omega, ?_⟩
    have t0 : LamX.Tabs (LT a "law.<locals>.") H := fun p hp => by
      rw [List.mem_singleton.mp hp]
      exact LamX.TabS.nil hT
    refine for_it (walk_range (lo := 0)) (fun n σ H' => ∃ o1 o2 o3 o4 o5 o6 o7 o8 o9 o10 o11 o12 o13 o14 : Option V, σ = [some (.ref sa), o1, o2, o3, o4, o5, o6, o7, o8, o9, o10, o11, o12, o13, o14] ∧ SqL K H' sa (ns.map V.int) ∧ LamX.Tabs (LT a "law.<locals>.") H')
      ⟨none, none, none, none, none, none, none, none, none, none, none, none, none, none, rfl, hs, t0⟩ (fun _ _ _ _ _ => trivial) ?_ ?_
    rotate_left
    · rintro σ H1 ⟨o1, o2, o3, o4, o5, o6, o7, o8, o9, o10, o11, o12, o13, o14, rfl, _⟩
      exact k H1
    rintro i x σ H1 H1' hi ⟨o1, o2, o3, o4, o5, o6, o7, o8, o9, o10, o11, o12, o13, o14, rfl, hs1, tb1⟩ ⟨rfl, rfl⟩
    have hi10 : i < 10 := by omega
    refine ⟨_, rfl, _, rfl, sa, ns, i, by show [V.ref sa, .int (0 + (i : Int))] = _; rw [Int.zero_add], hs1, hb, by omega, fun l H2 s2 nl P2 => ?_⟩
    have tb2 : LamX.Tabs (LT a "law.<locals>.") H2 := tb1.ext s2
    have hs2 : SqL K H2 sa (ns.map V.int) := SqL.same s2 hs1
    refine ⟨_, rfl, l, rfl, P2, fun pw w1 w2 w3 H4 b4 P4 npw hw h1 h2 h3 => ?_⟩
    have nwl : pw ≠ l := by
      obtain ⟨pp, qq, e1, _⟩ := P4
      exact ne_of hw e1 (by intro z; cases z)
    refine ⟨_, rfl, _, rfl, _, rfl, by show 2 ≤ sizeLine; decide, fun pd npd => ?_⟩
    have Pd : PoolAt (upd H4 pd (.lst [V.int 0, .int 4])) l := P4.upd (P4.ne npd)
    refine ⟨l, pw, pd, w1, w2, w3, rfl, Pd, nwl, (P4.ne npd).symm, sNew npd _ _ hw, upd_same, h1, h2, h3, fun D ps es H6 b6 P6 nDl gD en len6 => ?_⟩
    have tb6 : LamX.Tabs (LT a "law.<locals>.") H6 := tabs_but b6 Pd ((tabs_but b4 P2 tb2).ext (sNew npd))
    refine ⟨_, rfl, D, rfl, ⟨_, .inl (.inl gD)⟩, fun G nG => ?_⟩
    have nGl : G ≠ l := (P6.ne nG).symm
    refine lc_it (walk_list (xs := ps.map V.ref)) (fun i H' => ∃ qs : List Addr, H' G = some (.lst (qs.map V.ref)) ∧ Same H6 H' ∧ qs.length = i ∧ ∀ (j : Nat) (p : Addr) (e : Str × Tr × Bool), qs[j]? = some p → es[j]? = some e → DeedAt K a.C_Deed a.C_Term H' p e.1 e.2.1 e.2.2)
      ⟨[], upd_same, sNew nG, rfl, fun j p e h _ => by simp at h⟩ (fun _ _ _ ⟨_, _, sm, _⟩ => .inl (.inl (sm _ _ gD))) ?_ ?_
    · rintro m x H7 H7' hm7 ⟨qs, gG, s7, ln, dd⟩ ⟨rfl, hx⟩
      obtain ⟨p, hp, rfl⟩ : ∃ p, ps[m]? = some p ∧ x = .ref p := by
        rw [List.getElem?_map] at hx
        cases hq : ps[m]? with
        | none => rw [hq] at hx; cases hx
        | some p => rw [hq] at hx; cases hx; exact ⟨p, rfl, rfl⟩
      obtain ⟨e, he⟩ : ∃ e, es[m]? = some e := by
        have : m < es.length := by rw [← en.1]; exact (List.getElem?_eq_some_iff.mp hp).1
        exact ⟨_, List.getElem?_eq_getElem this⟩
      obtain ⟨y, t, b⟩ := e
      have ent := (en.2 m p _ hp he).same s7
      obtain ⟨v, sq, hv, hy, ht, hd⟩ := ent
      have sl := sl10
      refine ⟨rfl, _, rfl, ixT (i := 0) sq rfl ?_⟩
      refine ⟨_, rfl, ixT (i := 2) sq rfl ?_⟩
      refine ⟨v, t, rfl, hv, ht, hd, by decide, fun H8 s8 => ?_⟩
      refine ⟨_, rfl, ixT (i := 1) (SqT.same s8 sq) rfl ?_⟩
      refine ⟨rfl, rfl, fun o dx n1 n2 ne => ?_⟩
      refine make_deed (wb := true) (r := some t) (lb := some b) n1 n2 ?_ ?_ (.bl b) (fun e => nomatch e) (fun _ e => nomatch e) (fun _ _ _ e => nomatch e) fun s' t' b' H9 e1 e2 e3 e4 s9 da => ⟨rfl, ?_⟩
      · rw [← wordB_iff.mpr hy]
        exact .str y (Nat.le_trans hy.2.1 (by decide))
      · rw [← plan_text ht hd]
        exact .str _ (Nat.le_trans (text_small ht hd) (by decide))
      · cases e1
        cases e3
        cases e4
        have gG9 := (s8.trans s9) _ _ gG
        refine ⟨_, gG9, by rw [List.length_map, ln]; have : m < ps.length := (List.getElem?_eq_some_iff.mp hp).1; omega, qs ++ [o], by rw [upd_same, List.map_append]; rfl, sUpd nG (s7.trans (s8.trans s9)), by rw [List.length_append, ln]; rfl, ?_⟩
        have ins_ : ∀ c C dx fs, H9 c = some (.ins C dx fs) → upd H9 G (.lst (qs.map V.ref ++ [V.ref o])) c = some (.ins C dx fs) := fun c C dx fs h => by
          rw [upd_ne (ne_of h gG9 (by intro z; cases z))]
          exact h
        intro j q f hj hf
        by_cases hjl : j < qs.length
        · rw [List.getElem?_append_left hjl] at hj
          exact ((dd j q f hj hf).same (s8.trans s9)).kept ins_ (TK.lst gG9)
        · have : j = qs.length := by
            have := (List.getElem?_eq_some_iff.mp hj).1
            rw [List.length_append, List.length_singleton] at this
            omega
          subst this
          rw [List.getElem?_append_right (Nat.le_refl _), Nat.sub_self] at hj
          cases hj
          rw [ln, he] at hf
          cases hf
          exact da.kept ins_ (TK.lst gG9)
    rintro H7 ⟨qs, gG, s7, ln, dd⟩
    have hbut : ∀ {Hx Hy : Hp}, But l Hx Hy → SqL K Hx sa (ns.map V.int) → SqL K Hy sa (ns.map V.int) := by
      by_cases e : sa = l
      · have all : ∀ Hy : Hp, SqL K Hy sa (ns.map V.int) := by
          rcases hs1 with (h | ⟨o, h⟩) | h
          · rw [e, nl] at h
            cases h
          · rw [e, nl] at h
            cases h
          · exact fun Hy => .inr h
        exact fun _ _ => all _
      · exact fun b h => b.sql e h
    have hs7 : SqL K H7 sa (ns.map V.int) := SqL.same s7 (hbut b6 (SqL.same (sNew npd) (hbut b4 hs2)))
    have W7 : Lw K a "law.<locals>." H7 l D G ps qs es := ⟨P6.same s7, nDl, nGl, s7 _ _ gD, gG, en.tk (TK.of s7), ln.trans (by rw [List.length_map]; exact en.1), dd, tb6.ext s7⟩
    have lnq : qs.length = ps.length := ln.trans (List.length_map ..)
    refine ⟨_, rfl, D, _, rfl, .inl (.inl W7.hD), ?_⟩
    clear dd s7 gG nG tb6 gD en hw npw
    refine for_it (walk_enum (xs := ps.map V.ref)) (fun n σ H' => ∃ o6 o7 o8 o9 o10 o11 o12 o13 o14 : Option V, σ = [some (.ref sa), some (.int (0 + (i : Int))), some (.ref l), some (.ref pw), some (.ref D), some (.ref G), o6, o7, o8, o9, o10, o11, o12, o13, o14] ∧ SqL K H' sa (ns.map V.int) ∧ Lw K a "law.<locals>." H' l D G ps qs es)
      ⟨_, _, _, _, _, _, _, _, _, rfl, hs7, W7⟩ (fun _ _ _ _ ⟨_, _, _, _, _, _, _, _, _, _, _, w⟩ => .inl (.inl w.hD)) ?_ ?_
    rotate_left
    · rintro σ H8 ⟨o6, o7, o8, o9, o10, o11, o12, o13, o14, rfl, h8, w8⟩
      exact ⟨_, _, _, _, _, _, _, _, _, _, _, _, _, _, rfl, h8, w8.tabs⟩
    rintro n v σ Ha Ha' hn ⟨o6, o7, o8, o9, o10, o11, o12, o13, o14, rfl, ha, wa⟩ ⟨T0, x0, x, rfl, nT, rfl, hx0, hxn⟩
    cases hx0
    obtain ⟨p, hp, rfl⟩ : ∃ p, ps[n]? = some p ∧ x = .ref p := get_ref hxn
    obtain ⟨e, he⟩ : ∃ e, es[n]? = some e := by
      have : n < es.length := by rw [← wa.ents.1]; exact (List.getElem?_eq_some_iff.mp hp).1
      exact ⟨_, List.getElem?_eq_getElem this⟩
    obtain ⟨gq, hgq⟩ : ∃ q, qs[n]? = some q := by
      have : n < qs.length := by rw [lnq]; exact (List.getElem?_eq_some_iff.mp hp).1
      exact ⟨_, List.getElem?_eq_getElem this⟩
    obtain ⟨y, t, b⟩ := e
    have wb := wa.same (sNew (o := .tup [V.int (n : Nat), V.ref p]) nT)
    have hb2 := SqL.same (sNew (o := .tup [V.int (n : Nat), V.ref p]) nT) ha
    refine ⟨T0, _, rfl, .inl (.inl upd_same), rfl, _, _, rfl, _, _, rfl, rfl, ?_⟩
    generalize upd Ha T0 (.tup [V.int (n : Nat), V.ref p]) = Hb at wb hb2
    have eb := wb.ents.2 n p _ hp he
    have db := wb.deeds n gq _ hgq he
    refine ⟨_, rfl, p, y, t, b, rfl, eb, fun Hc sc => ?_⟩
    obtain ⟨v, sq, hv, hy, ht, hd⟩ := eb.same sc
    refine ⟨_, rfl, ixT (i := 2) sq rfl ?_⟩
    refine ⟨v, t, rfl, hv, ht, hd, by decide, fun Hd sd => ?_⟩
    refine ⟨by show 2 ≤ sizeLine; decide, fun p2 np2 => ?_⟩
    refine ⟨p2, _, rfl, .inl (.inl upd_same), rfl, _, _, rfl, _, _, rfl, rfl, ?_⟩
    have wd := (wb.same (sc.trans sd)).same (sNew (o := .tup [V.str (dtext y t b), .str t.text]) np2)
    have hd2 := SqL.same (sNew (o := .tup [V.str (dtext y t b), .str t.text]) np2) (SqL.same (sc.trans sd) hb2)
    generalize upd Hd p2 (.tup [V.str (dtext y t b), .str t.text]) = He at wd hd2
    clear np2 sc sd sq hv wb hb2 db eb
    have ixG : ∀ {Hx : Hp} {R : VK}, Lw K a "law.<locals>." Hx l D G ps qs es → R (.ref gq) Hx → rIxA K (.ref G) (.int (n : Nat)) Hx R := fun w r => ixL (i := n) (.inl (.inl w.hG)) (by rw [List.getElem?_map, hgq]; rfl) r
    have flat : ∀ r z, ∀ v ∈ douts r z, Flat1 v := by
      intro r z v hv
      cases r with
      | some q =>
        simp only [douts, List.mem_cons, List.not_mem_nil, or_false] at hv
        rcases hv with rfl | rfl | rfl | rfl
        · exact .inl ⟨_, rfl⟩
        · exact .inl ⟨_, rfl⟩
        · exact .inr ⟨_, rfl⟩
        · exact .inl ⟨_, rfl⟩
      | none =>
        simp only [douts, List.mem_cons, List.not_mem_nil, or_false] at hv
        rcases hv with rfl | rfl | rfl
        · exact .inl ⟨_, rfl⟩
        · exact .inl ⟨_, rfl⟩
        · exact .inr ⟨_, rfl⟩
    refine ⟨_, rfl, _, rfl, ixG wd ?_⟩
    refine ⟨gq, y, t, b, rfl, wd.deeds n gq _ hgq he, hy, hd, fun r1 Hf sf hr1' => ?_⟩
    have wf := wd.same sf
    have hf := SqL.same sf hd2
    obtain ⟨v, sq, hv, _⟩ := wf.ents.2 n p _ hp he
    refine ⟨_, rfl, ixT (i := 0) sq rfl ?_⟩
    refine ⟨_, rfl, _, rfl, ixT (i := 1) sq rfl ?_⟩
    refine ⟨_, rfl, by show 4 ≤ sizeLine; decide, fun r2 nr2 => ?_⟩
    refine neSame (.inl (.inl (sNew nr2 _ _ hr1'))) (.inl (.inl upd_same)) (flat _ _) ?_
    refine ⟨_, rfl, ?_⟩
    have wg := wf.same (sNew (o := .lst [V.str y, .str t.text, .bl b, .str (dtext y t b)]) nr2)
    have hg := SqL.same (sNew (o := .lst [V.str y, .str t.text, .bl b, .str (dtext y t b)]) nr2) hf
    generalize upd Hf r2 (.lst [V.str y, .str t.text, .bl b, .str (dtext y t b)]) = Hg at wg hg
    clear nr2 hr1' sf sq hv wf hf
    have pl : Plain (dtext y t b) 180 := dtext_plain (x := y) (t := t) (b := b) hy ht hd
    have dlen : (dtext y t b).length + 2 ≤ sizeLine := by have := pl.1; have := sl10; omega
    refine ⟨rfl, _, rfl, _, rfl, .inl ⟨_, rfl, dlen, fun e => ?_, fun y' t' b' e q3 Hh sh dq => ?_⟩⟩
    · rw [dparts_text (x := y) (t := t) (b := b) hy ht hd] at e
      cases e
    rw [dparts_text (x := y) (t := t) (b := b) hy ht hd] at e
    cases e
    have wh := wg.same sh
    have hh := SqL.same sh hg
    refine ⟨_, rfl, _, rfl, ixG wh ?_⟩
    have dg := wh.deeds n gq _ hgq he
    have j1 := dq
    have j2 := dg
    obtain ⟨dx1, q1, k1, _⟩ := j1
    obtain ⟨dx2, q2, k2, _⟩ := j2
    refine ⟨q3, gq, _, _, _, _, rfl, rfl, k1, k2, q3, y, t, b, _, rfl, dq, .inl ⟨gq, y, t, b, rfl, dg, _, rfl, ?_⟩⟩
    rw [show (!(decide (y = y) && (decide (b = b) && decide (t = t)))) = false by simp]
    refine ⟨_, rfl, ?_⟩
    refine ⟨_, rfl, _, rfl, ixG wh ⟨gq, dx2, _, rfl, k2, rfl, gq, y, t, b, rfl, dg, hy, fun q4 Hi si di => ?_⟩⟩
    refine ⟨q4, y, t, true, rfl, di, hy, hd, fun r3 Hj sj hr3' => ?_⟩
    have wj := wh.same (si.trans sj)
    have hj := SqL.same (si.trans sj) hh
    obtain ⟨v, sq, hv, _⟩ := wj.ents.2 n p _ hp he
    refine ⟨_, rfl, ixT (i := 0) sq rfl ?_⟩
    refine ⟨_, rfl, _, rfl, ixT (i := 0) sq rfl ?_⟩
    refine ⟨_, rfl, ixT (i := 2) sq rfl ?_⟩
    refine ⟨by show 3 ≤ sizeLine; decide, fun p4 np4 => ?_⟩
    have e4 : EntryAt K (upd Hj p4 (.tup [V.str y, .bl true, v])) p4 y t true := ⟨v, .inl (.inl upd_same), tr_same (sNew np4) hv, hy, ht, hd⟩
    refine ⟨p4, y, t, true, rfl, e4, fun Hk sk => ?_⟩
    refine ⟨by show 4 ≤ sizeLine; decide, fun r4 nr4 => ?_⟩
    refine neSame (.inl (.inl (sNew nr4 _ _ (sk _ _ (sNew np4 _ _ hr3'))))) (.inl (.inl upd_same)) (flat _ _) ?_
    refine ⟨_, rfl, ?_⟩
    have wl := (wj.same ((sNew (o := .tup [V.str y, .bl true, v]) np4).trans sk)).same (sNew (o := .lst [V.str y, .str t.text, .bl true, .str (dtext y t true)]) nr4)
    have hl := SqL.same (sNew (o := .lst [V.str y, .str t.text, .bl true, .str (dtext y t true)]) nr4) (SqL.same ((sNew (o := .tup [V.str y, .bl true, v]) np4).trans sk) hj)
    generalize upd Hk r4 (.lst [V.str y, .str t.text, .bl true, .str (dtext y t true)]) = Hl at wl hl
    clear nr4 sk e4 np4 sq hv wj hj hr3' sj si di dg dq k1 k2 wh hh sh wg hg wd hd2
    refine ⟨_, rfl, D, _, rfl, .inl (.inl wl.hD), fun D2 nD2 => ?_⟩
    refine lc_it (walk_enum (xs := ps.map V.ref)) (fun m H' => H' D2 = some (.lst []) ∧ Same Hl H') ⟨upd_same, sNew nD2⟩ (fun _ _ _ ⟨_, sm⟩ => .inl (.inl (sm _ _ wl.hD))) ?_ ?_
    · rintro m x Hm Hm' hm' ⟨g2, sm⟩ ⟨T1, x0, x1, rfl, nT1, rfl, hx0, hx1⟩
      cases hx0
      obtain ⟨p', hp', rfl⟩ := get_ref hx1
      obtain ⟨e', he'⟩ : ∃ e, es[m]? = some e := by
        have : m < es.length := by rw [← wl.ents.1]; exact (List.getElem?_eq_some_iff.mp hp').1
        exact ⟨_, List.getElem?_eq_getElem this⟩
      obtain ⟨g', hg'⟩ : ∃ q, qs[m]? = some q := by
        have : m < qs.length := by rw [lnq]; exact (List.getElem?_eq_some_iff.mp hp').1
        exact ⟨_, List.getElem?_eq_getElem this⟩
      obtain ⟨y', t', b'⟩ := e'
      have sm' := sm.trans (sNew (o := .tup [V.int (m : Nat), V.ref p']) nT1)
      have wm := wl.same sm'
      refine ⟨T1, _, rfl, .inl (.inl upd_same), rfl, _, _, rfl, _, _, rfl, rfl, rfl, ?_⟩
      have dg := wm.deeds n gq _ hgq he
      have dg' := wm.deeds m g' _ hg' he'
      have j1 := dg
      have j2 := dg'
      obtain ⟨dx1, q1, k1, _⟩ := j1
      obtain ⟨dx2, q2, k2, _⟩ := j2
      refine ⟨_, rfl, _, rfl, ixG wm ?_⟩
      refine ⟨_, rfl, _, rfl, ixL (i := m) (.inl (.inl wm.hG)) (by rw [List.getElem?_map, hg']; rfl) ?_⟩
      refine ⟨gq, _, _, rfl, k1, .inl ⟨g', _, _, rfl, k2⟩, gq, y, t, b, _, rfl, dg, .inl ⟨g', y', t', b', rfl, dg', _, rfl, ?_⟩⟩
      refine ⟨_, rfl, _, rfl, eqEnt (wm.ents.2 n p _ hp he) (wm.ents.2 m p' _ hp' he') ?_⟩
      refine neB ?_
      rw [decide_eq_true rfl]
      refine ⟨_, rfl, ?_⟩
      exact ⟨(sNew nT1) _ _ g2, sm'⟩
    rintro Hm ⟨g2, sm⟩
    refine ⟨Nat.zero_le _, fun p5 np5 => ?_⟩
    refine neL0 (.inl (.inl (sNew np5 _ _ g2))) upd_same ?_
    refine ⟨_, rfl, ?_⟩
    have wn := wl.same (sm.trans (sNew (o := .lst []) np5))
    have hn0 := SqL.same (sm.trans (sNew (o := .lst []) np5)) hl
    generalize upd Hm p5 (.lst []) = Hn at wn hn0
    clear g2 sm np5 nD2 wl hl
    refine ⟨6, rfl, by decide, by decide, ?_⟩
    refine for_it (walk_range (lo := 0) (n := (6 : Int).toNat)) (fun m σ H' => ∃ o10 o11 : Option V, σ = [some (.ref sa), some (.int (0 + (i : Int))), some (.ref l), some (.ref pw), some (.ref D), some (.ref G), some (.int (n : Nat)), some (.ref p), some (.str (dtext y t b)), some (.str t.text), o10, o11, o12, o13, o14] ∧ SqL K H' sa (ns.map V.int) ∧ Lw K a "law.<locals>." H' l D G ps qs es)
      ⟨_, _, rfl, hn0, wn⟩ (fun _ _ _ _ _ => trivial) ?_ ?_
    · rintro m x σ Hm Hm' hm' ⟨o10', o11', rfl, ho, wo⟩ ⟨rfl, rfl⟩
      refine ⟨_, rfl, _, rfl, l, dtext y t b, rfl, wo.pool, pl, fun z Hp bp Pp pz => ?_⟩
      have wp := wo.but bp Pp
      have hp_ := hbut bp ho
      refine ⟨wp.tabs, fun Hq xq tq => ?_⟩
      have wq := wp.ext xq tq
      have hq_ := sql_ext xq hp_
      refine ttry ?_
      refine ⟨rfl, _, rfl, tried_of pz fun r H2 s2 hr2 => ?_⟩
      refine ⟨_, rfl, z, rfl, pz.mono (by decide), fun r' H3 s3 hr3 => ?_⟩
      refine neSame (.inl (.inl (s3 _ _ hr2))) (.inl (.inl hr3)) (flat _ _) ?_
      refine ⟨_, rfl, ?_⟩
      exact ⟨_, _, rfl, SqL.same (s2.trans s3) hq_, wq.same (s2.trans s3)⟩
    rintro σ Ho ⟨o10', o11', rfl, ho, wo⟩
    clear wn hn0
    refine ⟨by show 1 ≤ sizeLine; decide, fun pt npt => ?_⟩
    refine ⟨by show 7 ≤ sizeLine; decide, fun pM npM => ?_⟩
    have s1 := sNew (o := .tup [V.str "a"]) npt
    have s2' := sNew (o := .lst [V.non, .str "A", .str "", .int 5, .bl true, .str "abcdefghi", .ref pt]) npM
    have et := s2' _ _ (upd_same (H := Ho) (a := pt))
    have em : (upd (upd Ho pt (.tup [V.str "a"])) pM (.lst [V.non, .str "A", .str "", .int 5, .bl true, .str "abcdefghi", .ref pt])) pM = some (.lst [V.non, .str "A", .str "", .int 5, .bl true, .str "abcdefghi", .ref pt]) := upd_same
    have wM := wo.same (s1.trans s2')
    have hM := SqL.same (s1.trans s2') ho
    generalize upd (upd Ho pt (.tup [V.str "a"])) pM (.lst [V.non, .str "A", .str "", .int 5, .bl true, .str "abcdefghi", .ref pt]) = HM at et em wM hM
    clear s1 s2' npM npt wo ho
    refine ⟨pM, rfl, ⟨_, .inl (.inl em)⟩, ?_⟩
    refine for_it (walk_list (xs := [V.non, .str "A", .str "", .int 5, .bl true, .str "abcdefghi", .ref pt])) (fun m σ H' => ∃ o12 : Option V, σ = [some (.ref sa), some (.int (0 + (i : Int))), some (.ref l), some (.ref pw), some (.ref D), some (.ref G), some (.int (n : Nat)), some (.ref p), some (.str (dtext y t b)), some (.str t.text), o10', o11', o12, o13, o14] ∧ SqL K H' sa (ns.map V.int) ∧ Lw K a "law.<locals>." H' l D G ps qs es ∧ H' pt = some (.tup [V.str "a"]) ∧ H' pM = some (.lst [V.non, .str "A", .str "", .int 5, .bl true, .str "abcdefghi", .ref pt]))
      ⟨_, rfl, hM, wM, et, em⟩ (fun _ _ _ _ ⟨_, _, _, _, _, em⟩ => .inl (.inl em)) ?_ ?_
    · rintro m x σ Hm Hm' hm' ⟨o12', rfl, ho, wo, et, em⟩ ⟨rfl, hx⟩
      refine ⟨wo.tabs, fun Hq xq tq => ttry ?_⟩
      have wq := wo.ext xq tq
      have hq_ := sql_ext xq ho
      have et' := xq _ _ et (fun ps z => by cases z)
      have em' := xq _ _ em (fun ps z => by cases z)
      obtain ⟨bx, sx, shx⟩ := badW et' x (List.mem_of_getElem? hx)
      refine ⟨_, rfl, rfl, rfl, fun o dx n1 n2 ne => tried_bad n1 n2 bx (.oth (.base .non) (by decide +kernel : kitB "NoneType" "int" = some false) (by decide +kernel : kitB "NoneType" "bool" = some false) rfl (by decide +kernel) T.kit_Term_NoneType) (.oth (.base (.int 3)) k_ib) shx (.inl ⟨rfl, rfl⟩) fun r H2 s2 hr2 => ?_⟩
      refine ⟨_, rfl, (shx.same s2).repr ?_⟩
      refine ⟨by show 3 ≤ sizeLine; decide, fun pz nz => ?_⟩
      have s3 := s2.trans (sNew (o := .lst [V.str "none", .str sx, .bl true]) nz)
      refine neSame (xs := [V.str "none", .str sx, .bl true]) (.inl (.inl (sNew nz _ _ hr2))) (.inl (.inl upd_same)) (flat3 _) ?_
      refine ⟨_, rfl, ?_⟩
      exact ⟨_, rfl, SqL.same s3 hq_, wq.same s3, s3 _ _ et', s3 _ _ em'⟩
    rintro σ Ho ⟨o12', rfl, ho, wo, _⟩
    clear em et wM hM
    refine ⟨by show 1 ≤ sizeLine; decide, fun pt npt => ?_⟩
    refine ⟨by show 6 ≤ sizeLine; decide, fun pM npM => ?_⟩
    have s1 := sNew (o := .tup [V.str "a"]) npt
    have s2' := sNew (o := .lst [V.non, .bl true, .str "A b", .int 10, .str "abcdefghi", .ref pt]) npM
    have et := s2' _ _ (upd_same (H := Ho) (a := pt))
    have em : (upd (upd Ho pt (.tup [V.str "a"])) pM (.lst [V.non, .bl true, .str "A b", .int 10, .str "abcdefghi", .ref pt])) pM = some (.lst [V.non, .bl true, .str "A b", .int 10, .str "abcdefghi", .ref pt]) := upd_same
    have wM := wo.same (s1.trans s2')
    have hM := SqL.same (s1.trans s2') ho
    generalize upd (upd Ho pt (.tup [V.str "a"])) pM (.lst [V.non, .bl true, .str "A b", .int 10, .str "abcdefghi", .ref pt]) = HM at et em wM hM
    clear s1 s2' npM npt wo ho
    have wy : ∀ {Hx : Hp}, WQ K Hx (.str y) true := fun {Hx} => by
      rw [← wordB_iff.mpr hy]
      exact .str y (Nat.le_trans hy.2.1 (by decide))
    refine ⟨pM, rfl, ⟨_, .inl (.inl em)⟩, ?_⟩
    refine for_it (walk_list (xs := [V.non, .bl true, .str "A b", .int 10, .str "abcdefghi", .ref pt])) (fun m σ H' => ∃ o12 : Option V, σ = [some (.ref sa), some (.int (0 + (i : Int))), some (.ref l), some (.ref pw), some (.ref D), some (.ref G), some (.int (n : Nat)), some (.ref p), some (.str (dtext y t b)), some (.str t.text), o10', o11', o12, o13, o14] ∧ SqL K H' sa (ns.map V.int) ∧ Lw K a "law.<locals>." H' l D G ps qs es ∧ H' pt = some (.tup [V.str "a"]) ∧ H' pM = some (.lst [V.non, .bl true, .str "A b", .int 10, .str "abcdefghi", .ref pt]))
      ⟨_, rfl, hM, wM, et, em⟩ (fun _ _ _ _ ⟨_, _, _, _, _, em⟩ => .inl (.inl em)) ?_ ?_
    · rintro m x σ Hm Hm' hm' ⟨o12', rfl, ho, wo, et, em⟩ ⟨rfl, hx⟩
      refine ⟨wo.tabs, fun Hq xq tq => ttry ?_⟩
      have wq := wo.ext xq tq
      have hq_ := sql_ext xq ho
      have et' := xq _ _ et (fun ps z => by cases z)
      have em' := xq _ _ em (fun ps z => by cases z)
      obtain ⟨bx, sx, shx⟩ := badT T et' x (List.mem_of_getElem? hx)
      obtain ⟨v, sq, hv, _⟩ := wq.ents.2 n p _ hp he
      refine ⟨_, rfl, ixT (i := 0) sq rfl ?_⟩
      refine ⟨_, rfl, rfl, rfl, fun o dx n1 n2 ne => tried_bad n1 n2 wy bx (.oth (.base .non) (by decide +kernel : kitB "NoneType" "bool" = some false)) shx (.inr (.inl ⟨rfl, rfl, rfl⟩)) fun r H2 s2 hr2 => ?_⟩
      refine ⟨_, rfl, (shx.same s2).repr ?_⟩
      refine ⟨by show 3 ≤ sizeLine; decide, fun pz nz => ?_⟩
      have s3 := s2.trans (sNew (o := .lst [V.str "none", .str sx, .bl true]) nz)
      refine neSame (xs := [V.str "none", .str sx, .bl true]) (.inl (.inl (sNew nz _ _ hr2))) (.inl (.inl upd_same)) (flat3 _) ?_
      refine ⟨_, rfl, ?_⟩
      exact ⟨_, rfl, SqL.same s3 hq_, wq.same s3, s3 _ _ et', s3 _ _ em'⟩
    rintro σ Ho ⟨o12', rfl, ho, wo, _⟩
    clear em et wM hM
    refine ⟨by show 4 ≤ sizeLine; decide, fun pM npM => ?_⟩
    have s2' := sNew (o := .lst [V.non, .int 0, .int 1, .str "no"]) npM
    have em : (upd Ho pM (.lst [V.non, .int 0, .int 1, .str "no"])) pM = some (.lst [V.non, .int 0, .int 1, .str "no"]) := upd_same
    have wM := wo.same s2'
    have hM := SqL.same s2' ho
    generalize upd Ho pM (.lst [V.non, .int 0, .int 1, .str "no"]) = HM at em wM hM
    clear s2' npM wo ho
    refine ⟨pM, rfl, ⟨_, .inl (.inl em)⟩, ?_⟩
    refine for_it (walk_list (xs := [V.non, .int 0, .int 1, .str "no"])) (fun m σ H' => ∃ o12 : Option V, σ = [some (.ref sa), some (.int (0 + (i : Int))), some (.ref l), some (.ref pw), some (.ref D), some (.ref G), some (.int (n : Nat)), some (.ref p), some (.str (dtext y t b)), some (.str t.text), o10', o11', o12, o13, o14] ∧ SqL K H' sa (ns.map V.int) ∧ Lw K a "law.<locals>." H' l D G ps qs es ∧ H' pM = some (.lst [V.non, .int 0, .int 1, .str "no"]))
      ⟨_, rfl, hM, wM, em⟩ (fun _ _ _ _ ⟨_, _, _, _, em⟩ => .inl (.inl em)) ?_ ?_
    · rintro m x σ Hm Hm' hm' ⟨o12', rfl, ho, wo, em⟩ ⟨rfl, hx⟩
      refine ⟨wo.tabs, fun Hq xq tq => ttry ?_⟩
      have wq := wo.ext xq tq
      have hq_ := sql_ext xq ho
      have em' := xq _ _ em (fun ps z => by cases z)
      obtain ⟨v, sq, hv, _⟩ := wq.ents.2 n p _ hp he
      refine ⟨_, rfl, ixT (i := 0) sq rfl ?_⟩
      have pot : ∀ {Hx : Hp}, PO K a.C_Term Hx (.str t.text) (some t) := fun {Hx} => by
        rw [← plan_text ht hd]
        exact .str _ (Nat.le_trans (text_small ht hd) (by decide))
      refine ⟨_, rfl, fun o d n1 n2 ne => ?_⟩
      have b4 : Same Hq (upd (upd Hq d (.own o)) o (.ins a.C_Term d [])) := fun c u hc => by
        rw [upd_ne (ne_of_none hc n1), upd_ne (ne_of_none hc n2)]
        exact hc
      refine ⟨o, d, _, some t, rfl, upd_same, pot, fun t' v' H5 e but hv' dp' => ⟨rfl, ?_⟩, fun e => nomatch e⟩
      cases e
      have s5 : Same Hq H5 := fun c u hc => but c u (ne_of_none hc n1) (b4 c u hc)
      have tm : TermAt K a.C_Term H5 o t := ⟨d, v', hv', dp', ht, Nat.le_trans hd (by decide)⟩
      obtain ⟨bx, sx, shx⟩ := badL (K := K) (H := H5) x (List.mem_of_getElem? hx)
      refine ⟨_, rfl, rfl, rfl, fun o dx n1 n2 ne => tried_bad n1 n2 wy (.own tm) bx shx (.inr (.inr ⟨rfl, rfl, rfl, rfl⟩)) fun r H2 s2 hr2 => ?_⟩
      refine ⟨_, rfl, (shx.same s2).repr ?_⟩
      refine ⟨by show 3 ≤ sizeLine; decide, fun pz nz => ?_⟩
      have s3 := (s5.trans s2).trans (sNew (o := .lst [V.str "none", .str sx, .bl true]) nz)
      refine neSame (xs := [V.str "none", .str sx, .bl true]) (.inl (.inl (sNew nz _ _ hr2))) (.inl (.inl upd_same)) (flat3 _) ?_
      refine ⟨_, rfl, ?_⟩
      exact ⟨_, rfl, SqL.same s3 hq_, wq.same s3, s3 _ _ em'⟩
    rintro σ Ho ⟨o12', rfl, ho, wo, _⟩
    clear em wM hM
    have dg := wo.deeds n gq _ hgq he
    have j1 := dg
    obtain ⟨dx1, q1, k1, _⟩ := j1
    refine ⟨_, rfl, _, rfl, ixG wo ?_⟩
    refine ⟨_, rfl, ?_⟩
    refine ⟨gq, _, _, rfl, k1, .inr ⟨_, rfl⟩, gq, y, t, b, _, rfl, dg, .inr ⟨_, rfl, _, rfl, ?_⟩⟩
    refine ⟨_, rfl, ?_⟩
    refine ⟨wo.tabs, fun Hq xq tq => ttry ?_⟩
    have wq := wo.ext xq tq
    have hq_ := sql_ext xq ho
    refine ⟨rfl, tried_non fun r H2 s2 hr2 => ?_⟩
    refine ⟨by show 3 ≤ sizeLine; decide, fun pz nz => ?_⟩
    have s3 := s2.trans (sNew (o := .lst [V.str "none", .str "None", .bl true]) nz)
    refine neSame (xs := [V.str "none", .str "None", .bl true]) (.inl (.inl (sNew nz _ _ hr2))) (.inl (.inl upd_same)) (flat3 _) ?_
    refine ⟨_, rfl, ?_⟩
    exact ⟨_, _, _, _, _, _, _, _, _, rfl, SqL.same s3 hq_, wq.same s3⟩
end
end Z
open PySem PySem.W PyProof.Rows
set_option maxRecDepth 100000
set_option maxHeartbeats 0
open_top hd for PySem.Challenge.rw_tiedsteps_k06_deeds_told_and_refused
open PySem PySem.W PyProof.Rows
set_option maxRecDepth 100000
set_option maxHeartbeats 0
theorem PySem.Challenge.cw_tiedsteps_k06_deeds_told_and_refused_holds : PySem.Challenge.rw_tiedsteps_k06_deeds_told_and_refused.Holds := by
  refine hd ?_
  k_fill
  refine Z.walkGT (l := PySem.Challenge.rw_tiedsteps_k06_deeds_told_and_refused) (n := 63) (k := 30) (x := "script") (CX := fun _ => L2.CX0) (sp := fun w c P => Z.spLaw (hd.heap_39 w.params) c P) rfl (by decide) rfl ⟨rfl, by decide, by decide⟩ ?R (fun w h Y => PySem.W.km_in_of Y) ?F ?G ?H
  case R => decide +kernel
  case G => exact fun w H s c P ns hl hb hO hS => ⟨s, ns, rfl, hS, hb, hO.1, fun _ => rfl⟩
  case H => exact fun _ _ _ _ _ z => z
  case F =>
    intro w mg fa h KX G hmg own
    have T : ∃ a : Z.Ad, Z.Tx PySem.Challenge.rw_tiedsteps_k06_deeds_told_and_refused.prog (hd.heap_39 w.params) mg a := ?T
    case T =>
      clear hmg own
      refine' Z.tx_mk (P := PySem.Challenge.rw_tiedsteps_k06_deeds_told_and_refused.prog) KX G ?h_g_TiedError ?h_g_NoTerm ?h_l_NoTerm ?h_r_NoTerm ?h_s_NoTerm ?h_n_NoTerm ?h_i_NoTerm ?h_t_NoTerm ?h_k_NoTerm ?h_x_NoTerm ?h_v_NoTerm ?h_y_NoTerm ?h_xf_NoTerm ?h_fn_NoTerm ?h_cd_NoTerm ?h_lc_NoTerm ?h_v2_NoTerm ?h_fi_NoTerm ?h_ln_NoTerm ?h_ce_NoTerm ?h_se_NoTerm ?h_up_NoTerm ?h_te_NoTerm ?h_kb_NoTerm_TiedError ?h_g_NoDeed ?h_l_NoDeed ?h_r_NoDeed ?h_s_NoDeed ?h_n_NoDeed ?h_i_NoDeed ?h_t_NoDeed ?h_k_NoDeed ?h_x_NoDeed ?h_v_NoDeed ?h_y_NoDeed ?h_xf_NoDeed ?h_fn_NoDeed ?h_cd_NoDeed ?h_lc_NoDeed ?h_v2_NoDeed ?h_fi_NoDeed ?h_ln_NoDeed ?h_ce_NoDeed ?h_se_NoDeed ?h_up_NoDeed ?h_te_NoDeed ?h_kb_NoDeed_TiedError ?h_v_LETTERS ?h_v_DIGITS ?h_v_MOST_LETTERS ?h_a_is_whole ?h_l_is_whole ?h_c_is_whole ?h_k_is_whole ?h_a_is_number ?h_l_is_number ?h_c_is_number ?h_k_is_number ?h_a_is_word ?h_l_is_word ?h_c_is_word ?h_k_is_word ?h_a_is_digit ?h_l_is_digit ?h_c_is_digit ?h_k_is_digit ?h_v_MOST_DEPTH ?h_v_MOST_CONSTANT ?h_v_SIGNS ?h_w_SIGNS ?h_a_word_at ?h_l_word_at ?h_c_word_at ?h_k_word_at ?h_a_plan_at ?h_l_plan_at ?h_c_plan_at ?h_k_plan_at ?h_a_text_of ?h_l_text_of ?h_c_text_of ?h_k_text_of ?h_a_stands_in ?h_l_stands_in ?h_c_stands_in ?h_k_stands_in ?h_a_plan_of ?h_l_plan_of ?h_c_plan_of ?h_k_plan_of ?h_g_Term ?h_pg_Term ?h_hd_Term ?h_po_Term ?h_sa_Term ?h_kp_Term ?h_ty_Term ?h_mo_Term ?h_kit_Term_NoneType ?h_kit_Term_bool ?h_kit_Term_int ?h_kit_Term_str ?h_kit_Term_list ?h_kit_Term_tuple ?h_kit_Term_dict ?h_kit_Term ?h_l_Term___init__ ?h_c_Term___init__ ?h_k_Term___init__ ?h_a_Term___init__ ?h_i_Term___init__ ?h_mk_Term ?h_l_Term_choice ?h_c_Term_choice ?h_k_Term_choice ?h_r1_Term_choice ?h_r2_Term_choice ?h_r3_Term_choice ?h_r4_Term_choice ?h_l_Term___str__ ?h_c_Term___str__ ?h_k_Term___str__ ?h_a_Term___str__ ?h_i_Term___str__ ?h_fm_Term ?h_l_Term_parts ?h_c_Term_parts ?h_k_Term_parts ?h_a_Term_parts ?h_i_Term_parts ?h_l_Term___eq__ ?h_c_Term___eq__ ?h_k_Term___eq__ ?h_a_Term___eq__ ?h_i_Term___eq__ ?h_ne_Term ?h_nf_Term ?h_l_Term_within ?h_c_Term_within ?h_k_Term_within ?h_a_Term_within ?h_i_Term_within ?h_no_Term_tree ?h_v_AT_ONCE ?h_v_AT_THE_END ?h_a_deed_parts ?h_l_deed_parts ?h_c_deed_parts ?h_k_deed_parts ?h_g_Deed ?h_pg_Deed ?h_hd_Deed ?h_po_Deed ?h_sa_Deed ?h_kp_Deed ?h_ty_Deed ?h_mo_Deed ?h_kit_Deed_NoneType ?h_kit_Deed_bool ?h_kit_Deed_int ?h_kit_Deed_str ?h_kit_Deed_list ?h_kit_Deed_tuple ?h_kit_Deed_dict ?h_kit_Deed ?h_l_Deed___init__ ?h_c_Deed___init__ ?h_k_Deed___init__ ?h_kw_Deed___init___late ?h_a_Deed___init__ ?h_i_Deed___init__ ?h_mk_Deed ?h_l_Deed_of ?h_c_Deed_of ?h_k_Deed_of ?h_r1_Deed_of ?h_r2_Deed_of ?h_r3_Deed_of ?h_r4_Deed_of ?h_l_Deed_variable ?h_c_Deed_variable ?h_k_Deed_variable ?h_q1_Deed_variable ?h_q2_Deed_variable ?h_q3_Deed_variable ?h_q4_Deed_variable ?h_l_Deed_term ?h_c_Deed_term ?h_k_Deed_term ?h_q1_Deed_term ?h_q2_Deed_term ?h_q3_Deed_term ?h_q4_Deed_term ?h_l_Deed_late ?h_c_Deed_late ?h_k_Deed_late ?h_q1_Deed_late ?h_q2_Deed_late ?h_q3_Deed_late ?h_q4_Deed_late ?h_l_Deed_delayed ?h_c_Deed_delayed ?h_k_Deed_delayed ?h_a_Deed_delayed ?h_i_Deed_delayed ?h_l_Deed___str__ ?h_c_Deed___str__ ?h_k_Deed___str__ ?h_a_Deed___str__ ?h_i_Deed___str__ ?h_fm_Deed ?h_l_Deed___eq__ ?h_c_Deed___eq__ ?h_k_Deed___eq__ ?h_a_Deed___eq__ ?h_i_Deed___eq__ ?h_ne_Deed ?h_nf_Deed ?h_no_Deed_is_late ?h_no_Deed_source ?h_no_Deed_target ?h_a__law_pool ?h_l__law_pool ?h_c__law_pool ?h_k__law_pool ?h_a__law_take ?h_l__law_take ?h_c__law_take ?h_k__law_take ?h_a__law_one ?h_l__law_one ?h_c__law_one ?h_k__law_one ?h_a__law_words ?h_l__law_words ?h_c__law_words ?h_k__law_words ?h_a__law_tree ?h_l__law_tree ?h_c__law_tree ?h_k__law_tree ?h_a__law_tree_text ?h_l__law_tree_text ?h_c__law_tree_text ?h_k__law_tree_text ?h_a__law_deed_text ?h_l__law_deed_text ?h_c__law_deed_text ?h_k__law_deed_text ?h_a__law_deeds_drawn ?h_l__law_deeds_drawn ?h_c__law_deeds_drawn ?h_k__law_deeds_drawn ?h_a__law_told ?h_l__law_told ?h_c__law_told ?h_k__law_told ?h_a__law_tried ?h_l__law_tried ?h_c__law_tried ?h_k__law_tried ?h_a__law_is_term ?h_l__law_is_term ?h_c__law_is_term ?h_k__law_is_term ?h_a__law_is_word ?h_l__law_is_word ?h_c__law_is_word ?h_k__law_is_word ?h_a__law_due ?h_l__law_due ?h_c__law_due ?h_k__law_due ?h_a__law_bent ?h_l__law_bent ?h_c__law_bent ?h_k__law_bent ?h_l_law ?h_c_law ?h_k_law ?h_lc_law ?h_a_law ?h_v11_law ?h_vx_law ?h_np_law ?h_b_len ?h_b_max ?h_b_min ?h_b_int ?h_b_str ?h_b_tuple ?h_b_list ?h_b_bool ?h_b_dict ?h_b_set ?h_b_isinstance ?h_b_sorted ?h_b_repr ?h_b_range ?h_b_enumerate ?h_b_zip ?h_b_sum ?h_b_all ?h_b_any ?h_sup ?h_topS ?h_opq ?h_tn ?h_tt
      (case h_g_TiedError => first | k_is | rfl | decide)
      (case h_g_NoTerm => first | k_is | rfl | decide)
      (case h_g_NoDeed => first | k_is | rfl | decide)
      (case h_g_Term => first | k_is | rfl | decide)
      (case h_g_Deed => first | k_is | rfl | decide)
      (case h_r3_Term_choice => first | k_is | rfl | decide)
      (case h_r3_Deed_of => first | k_is | rfl | decide)
      (case h_r4_Term_choice => first | k_is | rfl | decide)
      (case h_r4_Deed_of => first | k_is | rfl | decide)
      (case h_q1_Deed_variable => first | k_is | rfl | decide)
      (case h_q1_Deed_term => first | k_is | rfl | decide)
      (case h_q1_Deed_late => first | k_is | rfl | decide)
      (case h_q4_Deed_variable => first | k_is | rfl | decide)
      (case h_q4_Deed_term => first | k_is | rfl | decide)
      (case h_q4_Deed_late => first | k_is | rfl | decide)
      (case h_a_is_whole => first | k_is | rfl | decide)
      (case h_a_is_number => first | k_is | rfl | decide)
      (case h_a_is_word => first | k_is | rfl | decide)
      (case h_a_is_digit => first | k_is | rfl | decide)
      (case h_a_word_at => first | k_is | rfl | decide)
      (case h_a_plan_at => first | k_is | rfl | decide)
      (case h_a_text_of => first | k_is | rfl | decide)
      (case h_a_stands_in => first | k_is | rfl | decide)
      (case h_a_plan_of => first | k_is | rfl | decide)
      (case h_a_Term___init__ => first | k_is | rfl | decide)
      (case h_a_Term___str__ => first | k_is | rfl | decide)
      (case h_a_Term_parts => first | k_is | rfl | decide)
      (case h_a_Term___eq__ => first | k_is | rfl | decide)
      (case h_a_Term_within => first | k_is | rfl | decide)
      (case h_a_deed_parts => first | k_is | rfl | decide)
      (case h_a_Deed___init__ => first | k_is | rfl | decide)
      (case h_a_Deed_delayed => first | k_is | rfl | decide)
      (case h_a_Deed___str__ => first | k_is | rfl | decide)
      (case h_a_Deed___eq__ => first | k_is | rfl | decide)
      (case h_a__law_pool => first | k_is | rfl | decide)
      (case h_a__law_take => first | k_is | rfl | decide)
      (case h_a__law_one => first | k_is | rfl | decide)
      (case h_a__law_words => first | k_is | rfl | decide)
      (case h_a__law_tree => first | k_is | rfl | decide)
      (case h_a__law_tree_text => first | k_is | rfl | decide)
      (case h_a__law_deed_text => first | k_is | rfl | decide)
      (case h_a__law_deeds_drawn => first | k_is | rfl | decide)
      (case h_a__law_told => first | k_is | rfl | decide)
      (case h_a__law_tried => first | k_is | rfl | decide)
      (case h_a__law_is_term => first | k_is | rfl | decide)
      (case h_a__law_is_word => first | k_is | rfl | decide)
      (case h_a__law_due => first | k_is | rfl | decide)
      (case h_a__law_bent => first | k_is | rfl | decide)
      (case h_a_law => first | k_is | rfl | decide)
      (case h_v_NoTerm => first | k_is | rfl | decide)
      (case h_v_NoDeed => first | k_is | rfl | decide)
      (case h_v_LETTERS => first | k_is | rfl | decide)
      (case h_v_DIGITS => first | k_is | rfl | decide)
      (case h_v_MOST_LETTERS => first | k_is | rfl | decide)
      (case h_v_MOST_DEPTH => first | k_is | rfl | decide)
      (case h_v_MOST_CONSTANT => first | k_is | rfl | decide)
      (case h_v_SIGNS => first | k_is | rfl | decide)
      (case h_v_AT_ONCE => first | k_is | rfl | decide)
      (case h_v_AT_THE_END => first | k_is | rfl | decide)
      (case h_w_SIGNS => first | k_is | rfl | decide)
      (case h_i_NoTerm => first | k_is | rfl | decide)
      (case h_i_NoDeed => first | k_is | rfl | decide)
      (case h_i_Term___init__ => first | k_is | rfl | decide)
      (case h_i_Term___str__ => first | k_is | rfl | decide)
      (case h_i_Term_parts => first | k_is | rfl | decide)
      (case h_i_Term___eq__ => first | k_is | rfl | decide)
      (case h_i_Term_within => first | k_is | rfl | decide)
      (case h_i_Deed___init__ => first | k_is | rfl | decide)
      (case h_i_Deed_delayed => first | k_is | rfl | decide)
      (case h_i_Deed___str__ => first | k_is | rfl | decide)
      (case h_i_Deed___eq__ => first | k_is | rfl | decide)
      (case h_fn_NoTerm => first | k_is | rfl | decide)
      (case h_fn_NoDeed => first | k_is | rfl | decide)
      (case h_l_NoTerm => first | k_is | rfl | decide)
      (case h_l_NoDeed => first | k_is | rfl | decide)
      (case h_l_is_whole => first | k_is | rfl | decide)
      (case h_l_is_number => first | k_is | rfl | decide)
      (case h_l_is_word => first | k_is | rfl | decide)
      (case h_l_is_digit => first | k_is | rfl | decide)
      (case h_l_word_at => first | k_is | rfl | decide)
      (case h_l_plan_at => first | k_is | rfl | decide)
      (case h_l_text_of => first | k_is | rfl | decide)
      (case h_l_stands_in => first | k_is | rfl | decide)
      (case h_l_plan_of => first | k_is | rfl | decide)
      (case h_l_Term___init__ => first | k_is | rfl | decide)
      (case h_l_Term_choice => first | k_is | rfl | decide)
      (case h_l_Term___str__ => first | k_is | rfl | decide)
      (case h_l_Term_parts => first | k_is | rfl | decide)
      (case h_l_Term___eq__ => first | k_is | rfl | decide)
      (case h_l_Term_within => first | k_is | rfl | decide)
      (case h_l_deed_parts => first | k_is | rfl | decide)
      (case h_l_Deed___init__ => first | k_is | rfl | decide)
      (case h_l_Deed_of => first | k_is | rfl | decide)
      (case h_l_Deed_variable => first | k_is | rfl | decide)
      (case h_l_Deed_term => first | k_is | rfl | decide)
      (case h_l_Deed_late => first | k_is | rfl | decide)
      (case h_l_Deed_delayed => first | k_is | rfl | decide)
      (case h_l_Deed___str__ => first | k_is | rfl | decide)
      (case h_l_Deed___eq__ => first | k_is | rfl | decide)
      (case h_l__law_pool => first | k_is | rfl | decide)
      (case h_l__law_take => first | k_is | rfl | decide)
      (case h_l__law_one => first | k_is | rfl | decide)
      (case h_l__law_words => first | k_is | rfl | decide)
      (case h_l__law_tree => first | k_is | rfl | decide)
      (case h_l__law_tree_text => first | k_is | rfl | decide)
      (case h_l__law_deed_text => first | k_is | rfl | decide)
      (case h_l__law_deeds_drawn => first | k_is | rfl | decide)
      (case h_l__law_told => first | k_is | rfl | decide)
      (case h_l__law_tried => first | k_is | rfl | decide)
      (case h_l__law_is_term => first | k_is | rfl | decide)
      (case h_l__law_is_word => first | k_is | rfl | decide)
      (case h_l__law_due => first | k_is | rfl | decide)
      (case h_l__law_bent => first | k_is | rfl | decide)
      (case h_l_law => first | k_is | rfl | decide)
      (case h_lc_NoTerm => first | k_is | rfl | decide)
      (case h_lc_NoDeed => first | k_is | rfl | decide)
      (case h_lc_law => first | k_is | rfl | decide)
      (case h_r_NoTerm => first | k_is | rfl | decide)
      (case h_s_NoTerm => first | k_is | rfl | decide)
      (case h_n_NoTerm => first | k_is | rfl | decide)
      (case h_t_NoTerm => first | k_is | rfl | decide)
      (case h_k_NoTerm => first | k_is | rfl | decide)
      (case h_x_NoTerm => first | k_is | rfl | decide)
      (case h_y_NoTerm => first | k_is | rfl | decide)
      (case h_xf_NoTerm => first | k_is | rfl | decide)
      (case h_cd_NoTerm => first | k_is | rfl | decide)
      (case h_v2_NoTerm => first | k_is | rfl | decide)
      (case h_fi_NoTerm => first | k_is | rfl | decide)
      (case h_ln_NoTerm => first | k_is | rfl | decide)
      (case h_ce_NoTerm => first | k_is | rfl | decide)
      (case h_se_NoTerm => first | k_is | rfl | decide)
      (case h_up_NoTerm => first | k_is | rfl | decide)
      (case h_te_NoTerm => first | k_is | rfl | decide)
      (case h_kb_NoTerm_TiedError => first | k_is | rfl | decide)
      (case h_r_NoDeed => first | k_is | rfl | decide)
      (case h_s_NoDeed => first | k_is | rfl | decide)
      (case h_n_NoDeed => first | k_is | rfl | decide)
      (case h_t_NoDeed => first | k_is | rfl | decide)
      (case h_k_NoDeed => first | k_is | rfl | decide)
      (case h_x_NoDeed => first | k_is | rfl | decide)
      (case h_y_NoDeed => first | k_is | rfl | decide)
      (case h_xf_NoDeed => first | k_is | rfl | decide)
      (case h_cd_NoDeed => first | k_is | rfl | decide)
      (case h_v2_NoDeed => first | k_is | rfl | decide)
      (case h_fi_NoDeed => first | k_is | rfl | decide)
      (case h_ln_NoDeed => first | k_is | rfl | decide)
      (case h_ce_NoDeed => first | k_is | rfl | decide)
      (case h_se_NoDeed => first | k_is | rfl | decide)
      (case h_up_NoDeed => first | k_is | rfl | decide)
      (case h_te_NoDeed => first | k_is | rfl | decide)
      (case h_kb_NoDeed_TiedError => first | k_is | rfl | decide)
      (case h_c_is_whole => first | k_is | rfl | decide)
      (case h_k_is_whole => first | k_is | rfl | decide)
      (case h_c_is_number => first | k_is | rfl | decide)
      (case h_k_is_number => first | k_is | rfl | decide)
      (case h_c_is_word => first | k_is | rfl | decide)
      (case h_k_is_word => first | k_is | rfl | decide)
      (case h_c_is_digit => first | k_is | rfl | decide)
      (case h_k_is_digit => first | k_is | rfl | decide)
      (case h_c_word_at => first | k_is | rfl | decide)
      (case h_k_word_at => first | k_is | rfl | decide)
      (case h_c_plan_at => first | k_is | rfl | decide)
      (case h_k_plan_at => first | k_is | rfl | decide)
      (case h_c_text_of => first | k_is | rfl | decide)
      (case h_k_text_of => first | k_is | rfl | decide)
      (case h_c_stands_in => first | k_is | rfl | decide)
      (case h_k_stands_in => first | k_is | rfl | decide)
      (case h_c_plan_of => first | k_is | rfl | decide)
      (case h_k_plan_of => first | k_is | rfl | decide)
      (case h_pg_Term => first | k_is | rfl | decide)
      (case h_hd_Term => first | k_is | rfl | decide)
      (case h_po_Term => first | k_is | rfl | decide)
      (case h_sa_Term => first | k_is | rfl | decide)
      (case h_kp_Term => first | k_is | rfl | decide)
      (case h_ty_Term => first | k_is | rfl | decide)
      (case h_mo_Term => first | k_is | rfl | decide)
      (case h_kit_Term_NoneType => first | k_is | rfl | decide)
      (case h_kit_Term_bool => first | k_is | rfl | decide)
      (case h_kit_Term_int => first | k_is | rfl | decide)
      (case h_kit_Term_str => first | k_is | rfl | decide)
      (case h_kit_Term_list => first | k_is | rfl | decide)
      (case h_kit_Term_tuple => first | k_is | rfl | decide)
      (case h_kit_Term_dict => first | k_is | rfl | decide)
      (case h_kit_Term => first | k_is | rfl | decide)
      (case h_c_Term___init__ => first | k_is | rfl | decide)
      (case h_k_Term___init__ => first | k_is | rfl | decide)
      (case h_mk_Term => first | k_is | rfl | decide)
      (case h_c_Term_choice => first | k_is | rfl | decide)
      (case h_k_Term_choice => first | k_is | rfl | decide)
      (case h_r1_Term_choice => first | k_is | rfl | decide)
      (case h_r2_Term_choice => first | k_is | rfl | decide)
      (case h_c_Term___str__ => first | k_is | rfl | decide)
      (case h_k_Term___str__ => first | k_is | rfl | decide)
      (case h_fm_Term => first | k_is | rfl | decide)
      (case h_c_Term_parts => first | k_is | rfl | decide)
      (case h_k_Term_parts => first | k_is | rfl | decide)
      (case h_c_Term___eq__ => first | k_is | rfl | decide)
      (case h_k_Term___eq__ => first | k_is | rfl | decide)
      (case h_ne_Term => first | k_is | rfl | decide)
      (case h_nf_Term => first | k_is | rfl | decide)
      (case h_c_Term_within => first | k_is | rfl | decide)
      (case h_k_Term_within => first | k_is | rfl | decide)
      (case h_no_Term_tree => first | k_is | rfl | decide)
      (case h_c_deed_parts => first | k_is | rfl | decide)
      (case h_k_deed_parts => first | k_is | rfl | decide)
      (case h_pg_Deed => first | k_is | rfl | decide)
      (case h_hd_Deed => first | k_is | rfl | decide)
      (case h_po_Deed => first | k_is | rfl | decide)
      (case h_sa_Deed => first | k_is | rfl | decide)
      (case h_kp_Deed => first | k_is | rfl | decide)
      (case h_ty_Deed => first | k_is | rfl | decide)
      (case h_mo_Deed => first | k_is | rfl | decide)
      (case h_kit_Deed_NoneType => first | k_is | rfl | decide)
      (case h_kit_Deed_bool => first | k_is | rfl | decide)
      (case h_kit_Deed_int => first | k_is | rfl | decide)
      (case h_kit_Deed_str => first | k_is | rfl | decide)
      (case h_kit_Deed_list => first | k_is | rfl | decide)
      (case h_kit_Deed_tuple => first | k_is | rfl | decide)
      (case h_kit_Deed_dict => first | k_is | rfl | decide)
      (case h_kit_Deed => first | k_is | rfl | decide)
      (case h_c_Deed___init__ => first | k_is | rfl | decide)
      (case h_k_Deed___init__ => first | k_is | rfl | decide)
      (case h_kw_Deed___init___late => first | k_is | rfl | decide)
      (case h_mk_Deed => first | k_is | rfl | decide)
      (case h_c_Deed_of => first | k_is | rfl | decide)
      (case h_k_Deed_of => first | k_is | rfl | decide)
      (case h_r1_Deed_of => first | k_is | rfl | decide)
      (case h_r2_Deed_of => first | k_is | rfl | decide)
      (case h_c_Deed_variable => first | k_is | rfl | decide)
      (case h_k_Deed_variable => first | k_is | rfl | decide)
      (case h_q2_Deed_variable => first | k_is | rfl | decide)
      (case h_q3_Deed_variable => first | k_is | rfl | decide)
      (case h_c_Deed_term => first | k_is | rfl | decide)
      (case h_k_Deed_term => first | k_is | rfl | decide)
      (case h_q2_Deed_term => first | k_is | rfl | decide)
      (case h_q3_Deed_term => first | k_is | rfl | decide)
      (case h_c_Deed_late => first | k_is | rfl | decide)
      (case h_k_Deed_late => first | k_is | rfl | decide)
      (case h_q2_Deed_late => first | k_is | rfl | decide)
      (case h_q3_Deed_late => first | k_is | rfl | decide)
      (case h_c_Deed_delayed => first | k_is | rfl | decide)
      (case h_k_Deed_delayed => first | k_is | rfl | decide)
      (case h_c_Deed___str__ => first | k_is | rfl | decide)
      (case h_k_Deed___str__ => first | k_is | rfl | decide)
      (case h_fm_Deed => first | k_is | rfl | decide)
      (case h_c_Deed___eq__ => first | k_is | rfl | decide)
      (case h_k_Deed___eq__ => first | k_is | rfl | decide)
      (case h_ne_Deed => first | k_is | rfl | decide)
      (case h_nf_Deed => first | k_is | rfl | decide)
      (case h_no_Deed_is_late => first | k_is | rfl | decide)
      (case h_no_Deed_source => first | k_is | rfl | decide)
      (case h_no_Deed_target => first | k_is | rfl | decide)
      (case h_c__law_pool => first | k_is | rfl | decide)
      (case h_k__law_pool => first | k_is | rfl | decide)
      (case h_c__law_take => first | k_is | rfl | decide)
      (case h_k__law_take => first | k_is | rfl | decide)
      (case h_c__law_one => first | k_is | rfl | decide)
      (case h_k__law_one => first | k_is | rfl | decide)
      (case h_c__law_words => first | k_is | rfl | decide)
      (case h_k__law_words => first | k_is | rfl | decide)
      (case h_c__law_tree => first | k_is | rfl | decide)
      (case h_k__law_tree => first | k_is | rfl | decide)
      (case h_c__law_tree_text => first | k_is | rfl | decide)
      (case h_k__law_tree_text => first | k_is | rfl | decide)
      (case h_c__law_deed_text => first | k_is | rfl | decide)
      (case h_k__law_deed_text => first | k_is | rfl | decide)
      (case h_c__law_deeds_drawn => first | k_is | rfl | decide)
      (case h_k__law_deeds_drawn => first | k_is | rfl | decide)
      (case h_c__law_told => first | k_is | rfl | decide)
      (case h_k__law_told => first | k_is | rfl | decide)
      (case h_c__law_tried => first | k_is | rfl | decide)
      (case h_k__law_tried => first | k_is | rfl | decide)
      (case h_c__law_is_term => first | k_is | rfl | decide)
      (case h_k__law_is_term => first | k_is | rfl | decide)
      (case h_c__law_is_word => first | k_is | rfl | decide)
      (case h_k__law_is_word => first | k_is | rfl | decide)
      (case h_c__law_due => first | k_is | rfl | decide)
      (case h_k__law_due => first | k_is | rfl | decide)
      (case h_c__law_bent => first | k_is | rfl | decide)
      (case h_k__law_bent => first | k_is | rfl | decide)
      (case h_c_law => first | k_is | rfl | decide)
      (case h_k_law => first | k_is | rfl | decide)
      (case h_v11_law => first | k_is | rfl | decide)
      (case h_vx_law => exact ⟨_, _, _, _, _, _, _, rfl, rfl, rfl, rfl, rfl, by decide⟩)
      (case h_np_law => first | k_is | rfl | decide)
      (case h_b_len => first | k_is | rfl | decide)
      (case h_b_max => first | k_is | rfl | decide)
      (case h_b_min => first | k_is | rfl | decide)
      (case h_b_int => first | k_is | rfl | decide)
      (case h_b_str => first | k_is | rfl | decide)
      (case h_b_tuple => first | k_is | rfl | decide)
      (case h_b_list => first | k_is | rfl | decide)
      (case h_b_bool => first | k_is | rfl | decide)
      (case h_b_dict => first | k_is | rfl | decide)
      (case h_b_set => first | k_is | rfl | decide)
      (case h_b_isinstance => first | k_is | rfl | decide)
      (case h_b_sorted => first | k_is | rfl | decide)
      (case h_b_repr => first | k_is | rfl | decide)
      (case h_b_range => first | k_is | rfl | decide)
      (case h_b_enumerate => first | k_is | rfl | decide)
      (case h_b_zip => first | k_is | rfl | decide)
      (case h_b_sum => first | k_is | rfl | decide)
      (case h_b_all => first | k_is | rfl | decide)
      (case h_b_any => first | k_is | rfl | decide)
      (case h_sup => first | k_is | rfl | decide)
      (case h_topS => first | k_is | rfl | decide)
      (case h_opq => first | k_is | rfl | decide)
      (case h_tn => first | k_is | rfl | decide)
      (case h_tt => first | k_is | rfl | decide)
    obtain ⟨a, T⟩ := T
    have e := hmg.symm.trans T.law.mg
    cases e
    exact ⟨a.d_law, a.cc_law, a.P_law, T.blaw, T.ta_law h own, T.np_law, T.co_law h KX, fun base _ _ TB => Z.ok_law T TB⟩
