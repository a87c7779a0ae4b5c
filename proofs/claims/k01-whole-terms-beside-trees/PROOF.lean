import PyProof.Rows.All
import Wide.All
import OpenK.AllK
import Wide.FinOn
import HandS.ForMost
import HandS.ForExc
import HandS.Wide
import HandS.WideBits
import HandS.RaiseMore
import HandS.IsInst
import HandS.ExcField
import HandS.TryMany
import HandS.Property
import HandS.Star
import HandS.Deep
import HandS.NoneIn
import HandS.SetKeys
import HandS.FStr
import HandS.OwnEq
import HandS.Flow
import HandS.TupAny
import HandS.ExcSuper
import HandS.ExcInit
import HandS.Defaults
import HandS.ClsMeth
import KE.KExcSuper
import PyProof.ReprRoads
import HandS.EndBits
import HandS.Walk
import PyProof.StrLawsRepr
import PyProof.ReprLen
import PyProof.StrOps2
import HandS.ExcIs
import KE.KCallOwn
import HandS.SetTxt0
import HandS.SetBool
import HandS.Strs
import HandS.SetFor
import KE.KOpsOwn
import PySem.Challenge.RW_tiedsteps_k01_whole_terms_beside_trees
set_option Elab.async false
set_option linter.all false
set_option maxRecDepth 100000
set_option maxHeartbeats 4000000
namespace Z
open PySem PySem.Spec PyProof.Rows L2
theorem sNew {H : Hp} {p : Addr} {o : HO} (h : H p = none) : Same H (upd H p o) := fun b u e => by
  rw [upd_ne (ne_of_none e h)]
  exact e
theorem new {H : Hp} {o : HO} {Q : V → Hp → Prop} (h : ∀ p H1, H p = none → Same H H1 → H1 p = some o → Q (.ref p) H1) : ∀ p, H p = none → Q (.ref p) (upd H p o) :=
  fun p hp => h p _ hp (sNew hp) upd_same
def But (l : Addr) (H H' : Hp) : Prop := ∀ b o, b ≠ l → H b = some o → H' b = some o
theorem But.same {H H' : Hp} (e : Same H H') (l : Addr) : But l H H' := fun b o _ h => e b o h
theorem But.upd {H : Hp} {l : Addr} {o : HO} : But l H (L2.upd H l o) := fun b u hb e => by
  rw [upd_ne hb]
  exact e
theorem But.trans {l : Addr} {H H1 H2 : Hp} (a : But l H H1) (b : But l H1 H2) : But l H H2 := fun c o hc h => b c o hc (a c o hc h)
theorem But.refl (l : Addr) (H : Hp) : But l H H := fun _ _ _ h => h
theorem But.fresh {l : Addr} {H H1 H2 : Hp} (n : H l = none) (a : Same H H1) (b : But l H1 H2) : Same H H2 := fun c o h => b c o (ne_of_none h n) (a c o h)
theorem SqL.same {K : PySem.W.Frag} {H H' : Hp} {a : Addr} {xs : List V} (e : Same H H') (h : SqL K H a xs) : SqL K H' a xs := e.seq h
theorem SqT.same {K : PySem.W.Frag} {H H' : Hp} {a : Addr} {xs : List V} (e : Same H H') (h : SqT K H a xs) : SqT K H' a xs := by
  rcases h with (h | ⟨o, h⟩) | h
  · exact .inl (.inl (e _ _ h))
  · exact .inl (.inr ⟨o, e _ _ h⟩)
  · exact .inr h
structure TK (H H' : Hp) : Prop where
  tup : ∀ b xs, H b = some (.tup xs) → H' b = some (.tup xs)
  frz : ∀ b o u, H b = some (.frz o u) → H' b = some (.frz o u)
theorem TK.of {H H' : Hp} (e : Same H H') : TK H H' := ⟨fun _ _ h => e _ _ h, fun _ _ _ h => e _ _ h⟩
theorem TK.trans {H H1 H2 : Hp} (a : TK H H1) (b : TK H1 H2) : TK H H2 := ⟨fun c xs h => b.tup c xs (a.tup c xs h), fun c o u h => b.frz c o u (a.frz c o u h)⟩
theorem TK.lst {H : Hp} {l : Addr} {xs : List V} {o : HO} (h : H l = some (.lst xs)) : TK H (upd H l o) :=
  ⟨fun b ys e => by rw [upd_ne (ne_of e h (by intro z; cases z))]; exact e, fun b o u e => by rw [upd_ne (ne_of e h (by intro z; cases z))]; exact e⟩
theorem SqT.tk {K : PySem.W.Frag} {H H' : Hp} {a : Addr} {xs : List V} (e : TK H H') (h : SqT K H a xs) : SqT K H' a xs := by
  rcases h with (h | ⟨o, h⟩) | h
  · exact .inl (.inl (e.tup _ _ h))
  · exact .inl (.inr ⟨o, e.frz _ _ _ h⟩)
  · exact .inr h
mutual
theorem dp_same {K : PySem.W.Frag} {H H' : Hp} (e : Same H H') : ∀ {v : V} {d : PyData}, Dp K H v d → Dp K H' v d
  | _, _, .non => .non
  | _, _, .bl b => .bl b
  | _, _, .int i => .int i
  | _, _, .str x => .str x
  | _, _, .lst h a => .lst (SqL.same e h) (dpAll_same e a)
  | _, _, .tup h a => .tup (SqT.same e h) (dpAll_same e a)
theorem dpAll_same {K : PySem.W.Frag} {H H' : Hp} (e : Same H H') : ∀ {vs : List V} {ds : List PyData}, DpAll K H vs ds → DpAll K H' vs ds
  | _, _, .nil => .nil
  | _, _, .cons h a => .cons (dp_same e h) (dpAll_same e a)
end
theorem DpAll.length {K : PySem.W.Frag} {H : Hp} : ∀ {vs : List V} {ds : List PyData}, DpAll K H vs ds → vs.length = ds.length
  | _, _, .nil => rfl
  | _, _, .cons _ a => congrArg (· + 1) (DpAll.length a)
theorem DpAll.app {K : PySem.W.Frag} {H : Hp} : ∀ {vs : List V} {ds : List PyData} {ws : List V} {es : List PyData}, DpAll K H vs ds → DpAll K H ws es → DpAll K H (vs ++ ws) (ds ++ es)
  | _, _, _, _, .nil, b => b
  | _, _, _, _, .cons h a, b => .cons h (DpAll.app a b)
theorem DpAll.get {K : PySem.W.Frag} {H : Hp} : ∀ {vs : List V} {ds : List PyData} {i : Nat} {v : V}, DpAll K H vs ds → vs[i]? = some v → ∃ d, ds[i]? = some d ∧ Dp K H v d
  | _, _, _, _, .nil, e => by simp at e
  | _, _, 0, _, .cons h a, e => by
    simp at e
    subst e
    exact ⟨_, rfl, h⟩
  | _, _, i + 1, v, .cons h a, e => by
    obtain ⟨d, h1, h2⟩ := DpAll.get (i := i) (v := v) a (by simpa using e)
    exact ⟨d, by simpa using h1, h2⟩
theorem dpAll_map {K : PySem.W.Frag} {H : Hp} {α : Type} (f : α → V) (g : α → PyData) (h : ∀ a, Dp K H (f a) (g a)) : ∀ l : List α, DpAll K H (l.map f) (l.map g)
  | [] => .nil
  | a :: r => .cons (h a) (dpAll_map f g h r)
section
variable {X : Cx}
theorem OpR.box {f : Value → Value → Sem Value} {r r' : R2} (h : OpR X f r) (e : ∀ x y H Q, r' x y H Q → r x y H Q) : OpR X f r' := fun pins s σ H x y v u Q I rx ry q => h pins s σ H x y v u Q I rx ry (e _ _ _ _ q)
structure rAddA (K : PySem.W.Frag) (x y : V) (H : Hp) (Q : VK) : Prop where
  h : rI0 (fun i j => .int (i + j)) x y H Q ∨ (∃ i j, x = .str i ∧ y = .str j ∧ i.length + j.length ≤ sizeLine ∧ Q (.str (i ++ j)) H) ∨ rCat x y H Q ∨ rCatA K x y H Q
theorem op_addA {K : PySem.W.Frag} (k : X.K = K := by rfl) : OpR X (binaryOp .Add) (rAddA K) := by
  subst k
  exact OpR.box (OpR.or op_add (OpR.or op_add_str (OpR.or op_cat op_catA))) fun _ _ _ _ q => q.h
theorem addI {K : PySem.W.Frag} {i j : Int} {H : Hp} {Q : VK} (q : Q (.int (i + j)) H) : rAddA K (.int i) (.int j) H Q := ⟨.inl ⟨i, j, rfl, rfl, q⟩⟩
theorem addS {K : PySem.W.Frag} {i j : Str} {H : Hp} {Q : VK} (h : i.length + j.length ≤ sizeLine) (q : Q (.str (i ++ j)) H) : rAddA K (.str i) (.str j) H Q := ⟨.inr (.inl ⟨i, j, rfl, rfl, h, q⟩)⟩
theorem addL {K : PySem.W.Frag} {a b : Addr} {xs ys : List V} {H : Hp} {Q : VK} (ha : H a = some (.lst xs)) (hb : H b = some (.lst ys)) (h : xs.length + ys.length ≤ sizeLine)
    (q : ∀ p H1, H p = none → Same H H1 → H1 p = some (.lst (xs ++ ys)) → Q (.ref p) H1) : rAddA K (.ref a) (.ref b) H Q := ⟨.inr (.inr (.inl ⟨a, b, xs, ys, rfl, rfl, ha, hb, h, new q⟩))⟩
structure rMulA (x y : V) (H : Hp) (Q : VK) : Prop where
  h : rI CMulX (fun i j => .int (i * j)) x y H Q ∨ rRep x y H Q
theorem op_mulA : OpR X (binaryOp .Mult) rMulA := OpR.box (OpR.or op_mulX op_rep) fun _ _ _ _ q => q.h
theorem mulI {i j : Int} {H : Hp} {Q : VK} (h : CMulX i j) (q : Q (.int (i * j)) H) : rMulA (.int i) (.int j) H Q := ⟨.inl ⟨i, j, rfl, rfl, h, q⟩⟩
structure rInA (K : PySem.W.Frag) (neg : Bool) (x y : V) (H : Hp) (Q : VK) : Prop where
  h : rIn K neg x y H Q ∨ (∃ (c : Nat) (z : Str), x = .str ⟨#[c]⟩ ∧ y = .str z ∧ Q (.bl (if neg then !decide (c ∈ z.cps.toList) else decide (c ∈ z.cps.toList))) H)
theorem op_inA {K : PySem.W.Frag} (k : X.K = K := by rfl) : OpR X (compareOp .In) (rInA K false) := by
  subst k
  exact OpR.box (OpR.or op_in_seq (by
    intro pins s σ H x y v u Q I rx ry ⟨c, z, e1, e2, q⟩
    exact op_in_sign pins s σ H x y v u Q I rx ry ⟨c, z, e1, e2, q⟩)) fun _ _ _ _ q => q.h
theorem op_notInA {K : PySem.W.Frag} (k : X.K = K := by rfl) : OpR X (compareOp .NotIn) (rInA K true) := by
  subst k
  exact OpR.box (OpR.or op_notIn_seq (by
    intro pins s σ H x y v u Q I rx ry ⟨c, z, e1, e2, q⟩
    exact op_notIn_sign pins s σ H x y v u Q I rx ry ⟨c, z, e1, e2, q⟩)) fun _ _ _ _ q => q.h
theorem inSgn {K : PySem.W.Frag} {c : Nat} {z : Str} {H : Hp} {Q : VK} (q : Q (.bl (decide (c ∈ z.cps.toList))) H) : rInA K false (.str ⟨#[c]⟩) (.str z) H Q := ⟨.inr ⟨c, z, rfl, rfl, q⟩⟩
theorem ninSgn {K : PySem.W.Frag} {c : Nat} {z : Str} {H : Hp} {Q : VK} (q : Q (.bl (!decide (c ∈ z.cps.toList))) H) : rInA K true (.str ⟨#[c]⟩) (.str z) H Q := ⟨.inr ⟨c, z, rfl, rfl, q⟩⟩
end
end Z
set_option maxRecDepth 100000
set_option maxHeartbeats 4000000
namespace Z
open PySem PySem.Spec PyProof.Rows L2
structure FnG (P : Program) (w : World) (K : PySem.W.Frag) (mg : Str → Option Value) (base : Heap) (CX : CXT) (k : Nat) (f : Addr) (fd : FuncData) (ps : List Str) (sp : Sp) : Prop where
  len : ∀ vs H Q E, sp vs H Q E → vs.length = ps.length
  run : ∀ (A : Around) (outer : List Env) (s : Shared) (H : Hp) (args : Args) (us : List Value) (vs : List V) (Q : VK) (E : XK), Room k A → A.guards = some [] →
    Env0 P w K mg base A outer s H → BindsTo s fd args (ps.zip us) → Vals vs us → sp vs H Q E → codeAny (model P w) A (.call (.ref f) args) (CR CX outer P w H s Q E) s
section
variable {P : Program} {w : World} {K : PySem.W.Frag} {mg : Str → Option Value} {base : Heap} {CX : CXT}
theorem toG {k : Nat} {f : Addr} {fd : FuncData} {ps : List Str} {sp : Sp} (F : FnOk P w K mg base CX k f fd ps sp) : FnG P w K mg base CX k f fd ps sp :=
  ⟨F.len, fun A outer s H args us vs Q E hr _ => F.run A outer s H args us vs Q E hr⟩
theorem FnG.mono {j k : Nat} {f : Addr} {fd : FuncData} {ps : List Str} {sp : Sp} (F : FnG P w K mg base CX j f fd ps sp) (h : j ≤ k) : FnG P w K mg base CX k f fd ps sp :=
  ⟨F.len, fun A outer s H args us vs Q E hr => F.run A outer s H args us vs Q E (hr.mono h)⟩
theorem okG {x qual : Str} {st : Stmt} {f : Addr} {fd : FuncData} {N ps : List Str} {k : Nat} {sp : Sp} (F : Fun K x qual st f fd) (S : FnScope N ps (defScope st)) (len : ∀ vs H Q E, sp vs H Q E → vs.length = ps.length)
    (hbody : ∀ (cdv : Value) (A : Around) (outer : List Env) (s : Shared) (H : Hp) (vs : List V) (Q : VK) (E : XK), Room k (A.deeper (envOfC qual (defScope st) s.heap.objs.size f cdv)) → A.guards = some [] → sp vs H Q E →
      ∃ t, PSs (cxOf CX P w K mg base N qual (defScope st) f cdv A outer s H E) (defBody st) t ∧ t { nx := fun _ H' => Q .non H', rt := Q } (start N vs) H) : FnG P w K mg base CX (k + 1) f fd ps sp := by
  obtain ⟨oc, od, kV, doc, pm, an, cdv, ct, osl, rfl, lk, code⟩ := F.ex
  refine ⟨len, fun A outer s H args us vs Q E room gu e0 bd rv wish => ?_⟩
  have hin : K.In s.heap := e0.mod.kin.keeps fun b o e => (e0.bs b o e).1
  have big : s.heap.NoLimit := e0.mod.nolimit.keeps fun b o e => (e0.bs b o e).1
  have count := len vs H Q E wish
  refine codeAny_call_function room.depth (hin _ _ lk) rfl S.co S.gen rfl (PySem.W.codeRec_of hin code) (bd _ _ _ _ ?_)
  refine wpAny_newFunctionEnv_cells S.kind (fun y hy => ?_) fun env he s1 y => ?_
  · exact (S.par y.1 (List.of_mem_zip hy).1).imp id fun q => ⟨q, PySem.W.cellsFrom_some _ _ _ (.inl q)⟩
  · subst he
    refine ⟨big.keeps y.toInCall.keep, codeAny_func ?_⟩
    obtain ⟨t, der, rd⟩ := hbody cdv A outer s H vs Q E (room.deeper _) gu wish
    refine wpAny_mono (der.run [] s1 (start N vs) H _ (inv_start S room.hd e0 count rv y) rd) (fun fl s' out => ?_) fun _ _ out => out
    match fl, out with
    | .ret u, ⟨v, _, H', J, r, q⟩ => exact ⟨v, H', J.os, J.bare, J.base, J.hok, r, q⟩
    | .next, ⟨_, H', J, q⟩ => exact ⟨.non, H', J.os, J.bare, J.base, J.hok, rfl, q⟩
    | .brk, ⟨_, _, _, q⟩ => exact q.elim
    | .cont, ⟨_, _, _, q⟩ => exact q.elim
end
section
variable {X : Cx} {CX : CXT} {k : Nat} {f : Addr} {fd : FuncData} {ps : List Str} {sp : Sp} {E : L2.St → XK} {x : Str} {p pos : Pos} {e : Expr} {es : List Expr} {t : TA}
theorem run_G {pins : List (Addr × Obj)} {σ : L2.St} {H : Hp} {s : Shared} {Q : VK} {us : List Value} {vs : List V} (F : FnG X.prog X.w X.K X.mg X.base CX k f fd ps sp) (hr : Room k X.A) (gu : X.A.guards = some []) (hb : Binds X.K fd ps [])
    (hx : PassesAt CX X σ (E σ)) (I : Inv X pins σ H s) (r : Vals vs us) (h : sp vs H Q (E σ)) : wpAny (model X.prog X.w) X.A (call (.ref f) us) (EP X pins σ Q) X.xe s := by
  have hl : us.length = ps.length := by
    rw [← r.length]
    exact F.len _ _ _ _ h
  have bd := hb s us I.kIn (by rw [List.append_nil]; exact hl)
  rw [List.append_nil] at bd
  refine wpAny_call (codeAny_mono (F.run X.A X.stack s H ⟨us, []⟩ us vs Q (E σ) hr gu I.env0 bd r h) fun res s' out => ?_)
  match res, out with
  | .error er, out => exact hx pins H s er s' I out
  | .ok (.ret u), out => exact I.after out
  | .ok .next, out => exact out.elim
  | .ok .brk, out => exact out.elim
  | .ok .cont, out => exact out.elim
theorem pe_callG (F : FnG X.prog X.w X.K X.mg X.base CX k f fd ps sp) (hr : Room k X.A) (gu : X.A.guards = some []) (hg : Gl X x) (hm : X.mg x = some (.ref f)) (hk : PySem.W.keepIn X.K (.ref f) = true) (hb : Binds X.K fd ps [])
    (hx : ∀ σ, PassesAt CX X σ (E σ)) (ha : PA X (e :: es) t) (hdb : (x == ("__debug__" : Str)) = false := by decide)
    (he : starEach (e :: es) X.env = (false, eval e X.env) :: starEach es X.env := by rfl) (hpl : (backTo pos (starEach es X.env)).any (·.1) = false := by rfl) :
    PE X (.Call (.Name x p) (e :: es) [] pos) (tCallS sp E t) :=
  ⟨fun pins s σ _ _ I h => wpAny_Call_Name_kw (ld_glob I hg hm (PySem.W.callWith_K (h₀ := X.base) I.ok.mod.kin hk
    (thn (ha.run pos pins s σ _ _ I h) fun _ _ ⟨_, _, J, r, q⟩ => ⟨J.kIn, run_G F hr gu hb (hx σ) J r q⟩) he hpl) hdb)⟩
end
theorem passAt0 {X : Cx} (σ : L2.St) : PassesAt CX0 X σ (fun _ _ _ => False) := fun _ _ _ _ _ _ h => h.elim
theorem passAtL {X : Cx} (σ : L2.St) : PassesAt (L2.CX X.prog X.w) X σ (fun _ _ _ => False) := fun pins H s e s' I h => passL pins σ H s e s' I h
section
variable {P : Program} {w : World} {K : PySem.W.Frag} {mg mb : Str → Option Value} {CX : CXT}
theorem law_G {k : Nat} {fa a : Addr} {fd : FuncData} {x : Str} {sp : Sp} {s1 : Shared} {vs : List Value} {ns : List Int}
    (hin : K.In s1.heap) (glob : s1.heap.Ns mainGlobals mg) (blt : s1.heap.Ns builtinsNs mb) (bb : ∀ x : Str, x ≠ "__name__" → mb x = bootBuiltins x) (lim : s1.heap.NoLimit) (bare : s1.gens = #[])
    (scr : s1.heap.get? a = some { cls := .type "list", data := .seq vs.toArray }) (its : IntsAre vs ns) (few : ns.length ≤ sizeLine) (room : Room k callerA)
    (F : ∀ base : Heap, K.In base → base.Ns mainGlobals mg → FnG P w K mg base CX k fa fd [x] sp) (bd : ∀ (s : Shared) (u : Value), BindsTo s fd ⟨[u], []⟩ [(x, u)])
    (wish : ∀ H : Hp, Only H → SqL K H a (ns.map V.int) → sp [.ref a] H (fun v _ => v = .bl true) fun _ _ _ => False)
    (none_out : ∀ H e s', CX [] H s1 (fun _ _ _ => False) e s' → False) :
    codeAny (model P w) callerA (.call (.ref fa) ⟨[.ref a], []⟩) (fun r s' => r = .ok (.ret (.bool true)) ∧ OldK s1.heap s'.heap ∧ s'.os = s1.os ∧ AllBare s'.gens) s1 := by
  have rv := vals_ints its
  have go : ∀ H : Hp, Only H → SqL K H a (ns.map V.int) → HOk P w H s1.heap → (∀ b u, H b = some u → b = a ∧ K.lookup a = none) →
      codeAny (model P w) callerA (.call (.ref fa) ⟨[.ref a], []⟩) (fun r s' => r = .ok (.ret (.bool true)) ∧ OldK s1.heap s'.heap ∧ s'.os = s1.os ∧ AllBare s'.gens) s1 := by
    intro H only sq ok at_
    have free : ∀ {b : Addr}, (∀ u, H b = some u → False) → H b = none := fun {b} n => by
      cases q : H b with
      | none => rfl
      | some u => exact (n u q).elim
    have ns_ : ∀ {b : Addr} {m : Str → Option Value}, s1.heap.Ns b m → (hidT s1.heap H).Ns b m := fun {b m} ⟨o, es, ep, e, d, r⟩ => ⟨o, es, ep, hidT_get e (free fun u q => by
      obtain ⟨rfl, _⟩ := at_ b u q
      rw [scr] at e
      cases e
      have d' : Data.seq vs.toArray _ = Data.dict es ep := d
      cases d'), d, r⟩
    have kin : K.In (hidT s1.heap H) := fun b o e => hidT_get (hin b o e) (free fun u q => by
      obtain ⟨rfl, z⟩ := at_ b u q
      rw [z] at e
      cases e)
    have e0 : Env0 P w K mg (hidT s1.heap H) callerA [] s1 H :=
      ⟨rfl, ⟨kin, ns_ glob, ⟨mb, ns_ blt, bb⟩, lim.imp fun _ q => ⟨ns_ q.1, q.2⟩⟩, fun b o e => of_hidT e, Nat.le_of_eq (hidT_size _ _), trivial, fun b hb => (List.not_mem_nil hb).elim, ok, .of_eq bare⟩
    refine codeAny_mono ((F _ kin (ns_ glob)).run callerA [] s1 H ⟨[.ref a], []⟩ [.ref a] [.ref a] _ _ room rfl e0 (bd s1 (.ref a)) (.cons rfl .nil) (wish H only sq)) fun r s' out => ?_
    match r, out with
    | .error e, out => exact (none_out H e s' out).elim
    | .ok .next, out => exact out.elim
    | .ok .brk, out => exact out.elim
    | .ok .cont, out => exact out.elim
    | .ok (.ret u), ⟨v, H', os, gens, un, ok', r', q⟩ =>
      have q' : v = V.bl true := q
      subst q'
      obtain rfl : u = Value.bool true := r'
      refine ⟨rfl, OldK.of_keep fun b o e => ?_, os, gens⟩
      cases hb : H b with
      | none => exact un.keep b o e hb List.not_mem_nil List.not_mem_nil
      | some u =>
        rcases only b with z | ⟨ob, xs, z⟩
        · rw [z] at hb
          cases hb
        · have z2 := (ok' b _ (un.frzs b ob _ z)).1
          rw [(ok b _ z).1] at e
          cases e
          exact z2
  cases hk : K.lookup a with
  | some o =>
    have e := hin a o hk
    rw [scr] at e
    cases e
    exact go (fun _ => none) (fun _ => .inl rfl) (.inr ⟨_, vs.toArray, _, hk, rfl, rfl, rfl, by rw [List.size_toArray, its.length]; exact few, by simpa using rv⟩) (fun b u z => nomatch (show (none : Option HO) = some u from z)) fun b u z => nomatch (show (none : Option HO) = some u from z)
  | none =>
    have at_a : ∀ b u, (if b = a then some (HO.frz { cls := .type "list", data := .seq vs.toArray } (.lst (ns.map V.int))) else none) = some u → b = a ∧ u = HO.frz { cls := .type "list", data := .seq vs.toArray } (.lst (ns.map V.int)) := fun b u z => by
      split at z
      · exact ⟨by assumption, (Option.some.inj z).symm⟩
      · cases z
    refine go (fun b => if b = a then some (.frz { cls := .type "list", data := .seq vs.toArray } (.lst (ns.map V.int))) else none) (fun b => ?_) (.inl (.inr ⟨_, if_pos rfl⟩)) (fun b u z => ?_) fun b u z => ⟨(at_a b u z).1, hk⟩
    · by_cases hb : b = a
      · exact .inr ⟨_, _, if_pos hb⟩
      · exact .inl (if_neg hb)
    · obtain ⟨rfl, rfl⟩ := at_a b u z
      exact ⟨scr, by rw [List.length_map]; exact few, vs, _, rv, scr⟩
end
theorem walkG {l : PySem.W.OpenLaw} {n k : Nat} {q : Program} {loose : List Str} {XP : (Str → Option Value) → Heap → Prop} {YP : World → Heap → Prop} {d : DefRec} {K : Params → PySem.W.Frag} {CX : World → CXT} {sp : World → Sp} {x : Str}
    (hn : l.most = some n) (hn2 : n ≤ sizeLine) (hdf : d.params.defaults = []) (hr : Room k callerA)
    (hY : ∀ (w : World) (h : Heap), YP w h → (K w.params).In h)
    (F : ∀ (w : World) (mg : Str → Option Value) (fa : Addr) (h : Heap), (K w.params).In h → h.Ns mainGlobals mg → mg d.name = some (.ref fa) →
      ∃ fd : FuncData, (∀ (s : Shared) (u : Value), BindsTo s fd ⟨[u], []⟩ [(x, u)]) ∧
        ∀ base : Heap, (K w.params).In base → base.Ns mainGlobals mg → FnG l.prog w (K w.params) mg base (CX w) k fa fd [x] (sp w))
    (hsp : ∀ (w : World) (H : Hp) (a : Addr) (ns : List Int), ns.length ≤ n → (∀ z ∈ ns, Builtin.Int.intBits z ≤ 1048576) → Only H → SqL (K w.params) H a (ns.map V.int) → sp w [.ref a] H (fun v _ => v = .bl true) fun _ _ _ => False)
    (hCX : ∀ (w : World) (H : Hp) (s : Shared) (e : Value) (s' : Shared), CX w [] H s (fun _ _ _ => False) e s' → False) :
    PySem.W.WalkO q loose XP YP l.row.toRowW d [] (fun f vs => PySem.call f vs) := by
  refine Att.attach_callB hn hdf fun w s₀ s₁ mg mb fa o pm cd doc a vs ns G Y ho hd hcd hmg hobj hints hlen hbits hg => ?_
  obtain ⟨fd, hb, hF⟩ := F w mg fa _ (hY w _ Y) G.T.g hmg
  exact law_G (hY w _ Y) G.T.g G.T.b G.T.builtins G.T.nolimit hg hobj hints (Nat.le_trans hlen hn2) hr hF hb (fun H hO hS => hsp w H a ns hlen hbits hO hS) fun H e s' => hCX w H s₁ e s'
end Z
set_option maxRecDepth 100000
set_option maxHeartbeats 4000000
namespace Z
open PySem PySem.Spec PyProof.Rows L2
structure Bi (mg : Str → Option Value) : Prop where
  len : mg "len" = none
  max : mg "max" = none
  min : mg "min" = none
  int : mg "int" = none
  str : mg "str" = none
  tuple : mg "tuple" = none
  list : mg "list" = none
  bool : mg "bool" = none
  dict : mg "dict" = none
  set : mg "set" = none
  isinstance : mg "isinstance" = none
  sorted : mg "sorted" = none
  repr : mg "repr" = none
  range : mg "range" = none
  enumerate : mg "enumerate" = none
  zip : mg "zip" = none
  sum : mg "sum" = none
  all : mg "all" = none
  any : mg "any" = none
section
variable {X : Cx} {e : Expr} {es : List Expr} {t : TA} {p pos : Pos}
theorem CallR.or {f : Value} {r r' : List V → Hp → VK → Prop} (h : CallR X f r) (h' : CallR X f r') : CallR X f (fun xs H Q => r xs H Q ∨ r' xs H Q) := by
  intro pins s σ H xs us Q I rv q
  rcases q with q | q
  · exact h pins s σ H xs us Q I rv q
  · exact h' pins s σ H xs us Q I rv q
theorem CallR.box {f : Value} {r r' : List V → Hp → VK → Prop} (h : CallR X f r) (e : ∀ xs H Q, r' xs H Q → r xs H Q) : CallR X f r' := fun pins s σ H xs us Q I rv q => h pins s σ H xs us Q I rv (e _ _ _ q)
structure rLenA (K : PySem.W.Frag) (xs : List V) (H : Hp) (Q : VK) : Prop where
  h : (∃ p ys, xs = [.ref p] ∧ (SqL K H p ys ∨ SqT K H p ys) ∧ Q (.int ys.length) H) ∨ (∃ z, xs = [.str z] ∧ z.length ≤ sizeLine ∧ Q (.int z.length) H) ∨
  (∃ a kvs, xs = [V.ref a] ∧ H a = some (.dK kvs) ∧ Q (.int kvs.length) H)
theorem lenL {K : PySem.W.Frag} {p : Addr} {ys : List V} {H : Hp} {Q : VK} (h : SqL K H p ys) (q : Q (.int ys.length) H) : rLenA K [.ref p] H Q := ⟨.inl ⟨p, ys, rfl, .inl h, q⟩⟩
theorem lenT {K : PySem.W.Frag} {p : Addr} {ys : List V} {H : Hp} {Q : VK} (h : SqT K H p ys) (q : Q (.int ys.length) H) : rLenA K [.ref p] H Q := ⟨.inl ⟨p, ys, rfl, .inr h, q⟩⟩
theorem lenS {K : PySem.W.Frag} {z : Str} {H : Hp} {Q : VK} (h : z.length ≤ sizeLine) (q : Q (.int z.length) H) : rLenA K [.str z] H Q := ⟨.inr (.inl ⟨z, rfl, h, q⟩)⟩
theorem lenD {K : PySem.W.Frag} {a : Addr} {kvs : List (Key × V)} {H : Hp} {Q : VK} (h : H a = some (.dK kvs)) (q : Q (.int kvs.length) H) : rLenA K [.ref a] H Q := ⟨.inr (.inr ⟨a, kvs, rfl, h, q⟩)⟩
theorem cb_len (B : Bi X.mg) (ha : PA X (e :: es) t) (hg : Gl X "len" := by rfl) (he : starEach (e :: es) X.env = (false, eval e X.env) :: starEach es X.env := by rfl) (hpl : (backTo pos (starEach es X.env)).any (·.1) = false := by rfl) :
    PE X (.Call (.Name "len" p) (e :: es) [] pos) (tCB (rLenA X.K) t) := pe_callB (CallR.box (CallR.or call_len_seq (CallR.or call_len_str call_lenD)) fun _ _ _ q => q.h) hg B.len PySem.boot_len ha (he := he) (hpl := hpl)
structure rIntA (xs : List V) (H : Hp) (Q : VK) : Prop where
  h : ((∃ i, xs = [.int i] ∧ Q (.int i) H) ∨ ∃ k, xs = [.bl k] ∧ Q (.int (if k then 1 else 0)) H) ∨ ∃ a n, xs = [.str a] ∧ PySem.intText? a = some n ∧ a.length ≤ 640 ∧ Q (.int n) H
theorem intI {i : Int} {H : Hp} {Q : VK} (q : Q (.int i) H) : rIntA [.int i] H Q := ⟨.inl (.inl ⟨i, rfl, q⟩)⟩
theorem intB {k : Bool} {H : Hp} {Q : VK} (q : Q (.int (if k then 1 else 0)) H) : rIntA [.bl k] H Q := ⟨.inl (.inr ⟨k, rfl, q⟩)⟩
theorem intS {a : Str} {n : Int} {H : Hp} {Q : VK} (h : PySem.intText? a = some n) (hl : a.length ≤ 640) (q : Q (.int n) H) : rIntA [.str a] H Q := ⟨.inr ⟨a, n, rfl, h, hl, q⟩⟩
theorem cb_int (B : Bi X.mg) (ha : PA X (e :: es) t) (hg : Gl X "int" := by rfl) (he : starEach (e :: es) X.env = (false, eval e X.env) :: starEach es X.env := by rfl) (hpl : (backTo pos (starEach es X.env)).any (·.1) = false := by rfl) :
    PE X (.Call (.Name "int" p) (e :: es) [] pos) (tCB rIntA t) := pe_callTy (CallR.box (CallR.or call_int1 call_int_str) fun _ _ _ q => q.h) hg B.int PyProof.Rows.boot_int ha (he := he) (hpl := hpl)
structure rStrA (xs : List V) (H : Hp) (Q : VK) : Prop where
  h : (∃ i, xs = [.int i] ∧ i.natAbs.log2 < 1920 ∧ Q (.str (toString i)) H) ∨ ∃ a, xs = [.str a] ∧ Q (.str a) H
theorem strI {i : Int} {H : Hp} {Q : VK} (h : i.natAbs.log2 < 1920) (q : Q (.str (toString i)) H) : rStrA [.int i] H Q := ⟨.inl ⟨i, rfl, h, q⟩⟩
theorem strS {a : Str} {H : Hp} {Q : VK} (q : Q (.str a) H) : rStrA [.str a] H Q := ⟨.inr ⟨a, rfl, q⟩⟩
theorem cb_str (B : Bi X.mg) (ha : PA X (e :: es) t) (hg : Gl X "str" := by rfl) (he : starEach (e :: es) X.env = (false, eval e X.env) :: starEach es X.env := by rfl) (hpl : (backTo pos (starEach es X.env)).any (·.1) = false := by rfl) :
    PE X (.Call (.Name "str" p) (e :: es) [] pos) (tCB rStrA t) := pe_callTy (CallR.box (CallR.or call_str_int SkE.call_str_str) fun _ _ _ q => q.h) hg B.str PyProof.Rows.boot_str ha (he := he) (hpl := hpl)
structure rTupA (K : PySem.W.Frag) (xs : List V) (H : Hp) (Q : VK) : Prop where
  h : ∃ p ys, xs = [.ref p] ∧ ((SqL K H p ys ∧ ∀ l, H l = none → Q (.ref l) (upd H l (.tup ys))) ∨ (SqT K H p ys ∧ Q (.ref p) H))
theorem tupL {K : PySem.W.Frag} {p : Addr} {ys : List V} {H : Hp} {Q : VK} (h : SqL K H p ys) (q : ∀ l H1, H l = none → Same H H1 → H1 l = some (.tup ys) → Q (.ref l) H1) : rTupA K [.ref p] H Q := ⟨⟨p, ys, rfl, .inl ⟨h, new q⟩⟩⟩
theorem tupT {K : PySem.W.Frag} {p : Addr} {ys : List V} {H : Hp} {Q : VK} (h : SqT K H p ys) (q : Q (.ref p) H) : rTupA K [.ref p] H Q := ⟨⟨p, ys, rfl, .inr ⟨h, q⟩⟩⟩
theorem cb_tuple (B : Bi X.mg) (ha : PA X (e :: es) t) (hg : Gl X "tuple" := by rfl) (he : starEach (e :: es) X.env = (false, eval e X.env) :: starEach es X.env := by rfl) (hpl : (backTo pos (starEach es X.env)).any (·.1) = false := by rfl) :
    PE X (.Call (.Name "tuple" p) (e :: es) [] pos) (tCB (rTupA X.K) t) := pe_callTy (CallR.box call_tuple_of fun _ _ _ q => q.h) hg B.tuple PyProof.Rows.boot_tuple ha (he := he) (hpl := hpl)
structure rListA (K : PySem.W.Frag) (xs : List V) (H : Hp) (Q : VK) : Prop where
  h : ∃ p ys, xs = [.ref p] ∧ (SqL K H p ys ∨ SqT K H p ys) ∧ ∀ l, H l = none → Q (.ref l) (upd H l (.lst ys))
theorem listL {K : PySem.W.Frag} {p : Addr} {ys : List V} {H : Hp} {Q : VK} (h : SqL K H p ys ∨ SqT K H p ys) (q : ∀ l H1, H l = none → Same H H1 → H1 l = some (.lst ys) → Q (.ref l) H1) : rListA K [.ref p] H Q := ⟨⟨p, ys, rfl, h, new q⟩⟩
theorem cb_list (B : Bi X.mg) (ha : PA X (e :: es) t) (hg : Gl X "list" := by rfl) (he : starEach (e :: es) X.env = (false, eval e X.env) :: starEach es X.env := by rfl) (hpl : (backTo pos (starEach es X.env)).any (·.1) = false := by rfl) :
    PE X (.Call (.Name "list" p) (e :: es) [] pos) (tCB (rListA X.K) t) := pe_callTy (CallR.box call_list_of fun _ _ _ q => q.h) hg B.list PyProof.Rows.boot_list ha (he := he) (hpl := hpl)
structure rMaxA (K : PySem.W.Frag) (xs : List V) (H : Hp) (Q : VK) : Prop where
  h : (∃ i j, xs = [.int i, .int j] ∧ Q (.int (if j > i then j else i)) H) ∨ rMax K xs H Q
theorem max2 {K : PySem.W.Frag} {i j : Int} {H : Hp} {Q : VK} (q : Q (.int (if j > i then j else i)) H) : rMaxA K [.int i, .int j] H Q := ⟨.inl ⟨i, j, rfl, q⟩⟩
theorem cb_max (B : Bi X.mg) (ha : PA X (e :: es) t) (hc : X.calm = true := by rfl) (hg : Gl X "max" := by rfl) (he : starEach (e :: es) X.env = (false, eval e X.env) :: starEach es X.env := by rfl) (hpl : (backTo pos (starEach es X.env)).any (·.1) = false := by rfl) :
    PE X (.Call (.Name "max" p) (e :: es) [] pos) (tCB (rMaxA X.K) t) := pe_callB (CallR.box (CallR.or (call_max2 hc) (cr_max hc)) fun _ _ _ q => q.h) hg B.max PyProof.Rows.boot_max ha (he := he) (hpl := hpl)
structure rMinA (K : PySem.W.Frag) (xs : List V) (H : Hp) (Q : VK) : Prop where
  h : (∃ i j, xs = [.int i, .int j] ∧ Q (.int (if j < i then j else i)) H) ∨ rMin K xs H Q
theorem min2 {K : PySem.W.Frag} {i j : Int} {H : Hp} {Q : VK} (q : Q (.int (if j < i then j else i)) H) : rMinA K [.int i, .int j] H Q := ⟨.inl ⟨i, j, rfl, q⟩⟩
theorem boot_min_ : bootBuiltins "min" = some (.builtin "min") := by decide +kernel
theorem cb_min (B : Bi X.mg) (ha : PA X (e :: es) t) (hc : X.calm = true := by rfl) (hg : Gl X "min" := by rfl) (he : starEach (e :: es) X.env = (false, eval e X.env) :: starEach es X.env := by rfl) (hpl : (backTo pos (starEach es X.env)).any (·.1) = false := by rfl) :
    PE X (.Call (.Name "min" p) (e :: es) [] pos) (tCB (rMinA X.K) t) := pe_callB (CallR.box (CallR.or (call_min2 hc) (cr_min hc)) fun _ _ _ q => q.h) hg B.min boot_min_ ha (he := he) (hpl := hpl)
theorem boot_isi : bootBuiltins "isinstance" = some (.builtin "isinstance") := by decide +kernel
theorem cb_isi (B : Bi X.mg) (ha : PA X (e :: es) t) (hg : Gl X "isinstance" := by rfl) (he : starEach (e :: es) X.env = (false, eval e X.env) :: starEach es X.env := by rfl) (hpl : (backTo pos (starEach es X.env)).any (·.1) = false := by rfl) :
    PE X (.Call (.Name "isinstance" p) (e :: es) [] pos) (tCB (fun xs H Q => rIsi X.K xs H Q ∨ rIsiT X.K xs H Q) t) := pe_callB (CallR.or call_isi call_isiT) hg B.isinstance boot_isi ha (he := he) (hpl := hpl)
theorem isiTy {K : PySem.W.Frag} {x : V} {a b : String} {r : Bool} {H : Hp} {Q : VK} (h : TyX K H x (.type a)) (k : kitB a b = some r) (q : Q (.bl r) H) : rIsi K [x, .ty b] H Q ∨ rIsiT K [x, .ty b] H Q := .inl ⟨x, .ty b, .type a, .type b, r, rfl, .ty b, h, kit_ty k, q⟩
theorem isiOwn {K : PySem.W.Frag} {x : V} {t : Value} {C : Addr} {r : Bool} {H : Hp} {Q : VK} (h : TyX K H x t) (k : PySem.W.kitOne K t (.ref C) = some r) (q : Q (.bl r) H) : rIsi K [x, .ref C] H Q ∨ rIsiT K [x, .ref C] H Q := .inl ⟨x, .ref C, t, .ref C, r, rfl, .own C, h, k, q⟩
theorem gl_ty {x : Str} {n : String} (hg : Gl X x) (hm : X.mg x = none) (hv : bootBuiltins x = some (.type n)) (hn : x ≠ "__name__" := by decide) (hd : (x == ("__debug__" : Str)) = false := by decide) : PE X (.Name x p) (tC (.ty n)) := pe_bltn hg hm hv rfl hn hd
end
mutual
theorem dp_plain {K : PySem.W.Frag} {H : Hp} : ∀ {v : V} {d : PyData}, Dp K H v d → d.hasDict = false
  | _, _, .non => by simp only [PyData.hasDict]
  | _, _, .bl b => by simp only [PyData.hasDict]
  | _, _, .int i => by simp only [PyData.hasDict]
  | _, _, .str x => by simp only [PyData.hasDict]
  | _, _, .lst _ a => by simp only [PyData.hasDict]; exact dpAll_plain a
  | _, _, .tup _ a => by simp only [PyData.hasDict]; exact dpAll_plain a
theorem dpAll_plain {K : PySem.W.Frag} {H : Hp} : ∀ {vs : List V} {ds : List PyData}, DpAll K H vs ds → PyData.hasDictAll ds = false
  | _, _, .nil => by simp only [PyData.hasDictAll]
  | _, _, .cons h a => by simp only [PyData.hasDictAll, dp_plain h, dpAll_plain a, Bool.or_self]
end
section
variable {X : Cx} {e : Expr} {es : List Expr} {t : TA} {p pos : Pos}
structure rRepr (K : PySem.W.Frag) (xs : List V) (H : Hp) (Q : VK) : Prop where
  h : (∃ x d, xs = [x] ∧ Dp K H x d ∧ d.showable = true ∧ d.depth ≤ 60 ∧ d.shown.length ≤ sizeLine ∧ Q (.str d.shown) H) ∨ ∃ a, xs = [.ref a] ∧ H a = some (.dK []) ∧ Q (.str (PyData.dict []).shown) H
theorem reprD {K : PySem.W.Frag} {x : V} {d : PyData} {H : Hp} {Q : VK} (h : Dp K H x d) (h1 : d.showable = true) (h2 : d.depth ≤ 60) (h3 : d.shown.length ≤ sizeLine) (q : Q (.str d.shown) H) : rRepr K [x] H Q := ⟨.inl ⟨x, d, rfl, h, h1, h2, h3, q⟩⟩
theorem repr0 {K : PySem.W.Frag} {a : Addr} {H : Hp} {Q : VK} (h : H a = some (.dK [])) (q : Q (.str (PyData.dict []).shown) H) : rRepr K [.ref a] H Q := ⟨.inr ⟨a, rfl, h, q⟩⟩
theorem dict0_reads {X : Cx} {pins : List (Addr × Obj)} {σ : L2.St} {H : Hp} {s : Shared} {a : Addr} (I : Inv X pins σ H s) (h : H a = some (.dK [])) : Reads s.heap (.ref a) (.dict []) [a] ∧ (a == sysModules) = false := by
  obtain ⟨_, ns, vs, kv, hd⟩ : [].length ≤ sizeLine ∧ (a == sysModules) = false ∧ ∃ vs, KV ([] : List (Key × V)) vs ∧ s.heap.DictOf (mixKind X.prog X.w) a vs := I.hok a _ h
  cases kv
  obtain ⟨o, es, ep, ho, ed, de, _, pr, _⟩ := hd
  have e0 : es.toList = [] := by
    generalize es.toList = l at pr
    cases pr
    rfl
  have z1 : ReadsAll s.heap (es.toList.map (·.key)) [] [] := by rw [e0]; exact .nil
  have z2 : ReadsAll s.heap (es.toList.map (·.val)) [] [] := by rw [e0]; exact .nil
  exact ⟨Reads.dict (kvs := []) ho ed.1 de z1 z2, ns⟩
theorem call_repr {X : Cx} (gu : X.A.guards = some []) (hu : X.A.units + 64 < cLine) : CallR X (.builtin "repr") (rRepr X.K) := by
  intro pins s σ H xs us Q I r h
  rcases h.h with ⟨x, d, rfl, hd, sh, dp, sz, q⟩ | ⟨a, rfl, ha, q⟩
  rotate_left
  · obtain ⟨u, rfl, rx⟩ := vals1 r
    cases (show u = Value.ref a from rx)
    obtain ⟨rd, ns⟩ := dict0_reads I ha
    have dp : (PyData.dict []).depth = 1 := by simp [PyData.depth, PyData.depthKv]
    refine repr_of_reads' (h₀ := s.heap) rd (by simp [PyData.showable, PyData.showableKv]) (fun _ hm => ?_) gu (by rw [dp]; omega) (fun _ _ e => e) (fun h' w tk k => ⟨.str _, H, I.kept k, ⟨_, rfl⟩, q⟩) (by simp only [PyData.shown, PyData.shownKv]; decide +kernel)
    rw [List.mem_singleton] at hm
    rw [hm] at ns
    simp at ns
  obtain ⟨u, rfl, rx⟩ := vals1 r
  cases hd with
  | non =>
    cases (show u = Value.none from rx)
    refine PySem.P.repr_of_none ⟨.str _, H, I.tok _, ⟨_, rfl⟩, ?_⟩
    simpa only [PyData.shown] using q
  | bl b =>
    cases (show u = Value.bool b from rx)
    refine PySem.P.repr_of_bool ⟨.str _, H, I.tok _, ⟨_, rfl⟩, ?_⟩
    simpa only [PyData.shown] using q
  | int i =>
    obtain ⟨tk, rfl⟩ := (show ∃ t, u = Value.int i t from rx)
    refine PySem.P.repr_of_int (by simpa [PyData.showable] using sh) ⟨.str _, H, I.tok _, ⟨_, rfl⟩, ?_⟩
    simpa only [PyData.shown] using q
  | str y =>
    obtain ⟨tk, rfl⟩ := (show ∃ t, u = Value.str y t from rx)
    refine PySem.P.repr_of_str ⟨.str _, H, I.tok _, ⟨_, rfl⟩, ?_⟩ (by simpa only [PyData.shown] using sz)
    simpa only [PyData.shown] using q
  | @lst a ys ds hl ha =>
    cases (show u = Value.ref a from rx)
    obtain ⟨as, rd⟩ := Dp.reads I (.list ds) (.ref a) (.ref a) (.lst hl ha) rfl
    exact repr_of_reads' (h₀ := s.heap) rd sh (PyData.noDict_hsm (dp_plain (K := X.K) (H := H) (.lst hl ha))) gu (by omega) (fun _ _ e => e) (fun h' w tk k => ⟨.str _, H, I.kept k, ⟨_, rfl⟩, q⟩) sz
  | @tup a ys ds hl ha =>
    cases (show u = Value.ref a from rx)
    obtain ⟨as, rd⟩ := Dp.reads I (.tuple ds) (.ref a) (.ref a) (.tup hl ha) rfl
    exact repr_of_reads' (h₀ := s.heap) rd sh (PyData.noDict_hsm (dp_plain (K := X.K) (H := H) (.tup hl ha))) gu (by omega) (fun _ _ e => e) (fun h' w tk k => ⟨.str _, H, I.kept k, ⟨_, rfl⟩, q⟩) sz
theorem cb_repr (B : Bi X.mg) (gu : X.A.guards = some []) (hu : X.A.units + 64 < cLine) (ha : PA X (e :: es) t) (hg : Gl X "repr" := by rfl) (he : starEach (e :: es) X.env = (false, eval e X.env) :: starEach es X.env := by rfl) (hpl : (backTo pos (starEach es X.env)).any (·.1) = false := by rfl) :
    PE X (.Call (.Name "repr" p) (e :: es) [] pos) (tCB (rRepr X.K) t) := pe_callB (call_repr gu hu) hg B.repr PyProof.Rows.boot_repr ha (he := he) (hpl := hpl)
end
end Z
set_option maxRecDepth 100000
set_option maxHeartbeats 4000000
namespace Z
open PySem PySem.Spec PyProof.Rows L2
open PySem.W PySem.Calls PySem.HandSPX
def xiA (f : Str) (p1 p2 : Pos) : Arguments := { posonlyargs := [], args := [{ arg := "self", annotation := none, pos := p1 }, { arg := f, annotation := none, pos := p2 }], vararg := none, kwonlyargs := [], kw_defaults := [], kwarg := none, defaults := [] }
def xiB (f m : Str) (j : Nat) (p0 p1 p2 p3 p4 p5 q1 q2 q3 q4 : Pos) : List Stmt :=
  [.Expr (.Call (.Attribute (.Call (.Name "super" p0) [] [] p1) "__init__" p2) [.Constant (.str m) j p3] [] p4) p5, .Assign [.Attribute (.Name "self" q1) f q2] (.Name f q3) q4]
def xiS (f : Str) : Scope := { kind := .function, names := [("self", .local), (f, .local), ("__class__", .free), ("super", .globalImplicit)], isGenerator := false, isCoroutine := false, more := [] }
def IsInit (f qual : Str) (fd : FuncData) : Prop := ∃ (kV doc pm cdv ct : Value) (an : Option Addr) (cc : Addr) (m : Str) (j : Nat) (p1 p2 q0 q1 q2 q3 q4 q5 r1 r2 r3 r4 : Pos),
  fd = fnX "__init__" qual (xiA f p1 p2) (xiB f m j q0 q1 q2 q3 q4 q5 r1 r2 r3 r4) (xiS f) [("__class__", cc)] .none kV doc pm an cdv ct
structure Tied (prog : Program) (K : Frag) (mg : Str → Option Value) (x f qual : Str) (C fI : Addr) : Prop where
  gC : mg x = some (.ref C)
  cls : ∃ nm q N bs bm sn sub ab col dd k0 k1 k2 k3 k5, K.lookup C = some (excClassObj nm q C N bs bm true sn sub ab col dd k0 k1 k2 k3 k5 "ValueError.__new__") ∧ refsVE bm = true
  sa : findIn K (.ref C) "__setattr__" = some (some (.builtin "object.__setattr__"))
  noN : findIn K (.ref C) f = some none
  iC : findIn K (.ref C) "__init__" = some (some (.ref fI))
  tC : typeIn K (.ref fI) = some (.type "function")
  kC : keepIn K (.ref C) = true
  exC : subIn K (.ref C) (.type "BaseException") = some true
  isV : subIn K (.ref C) (.type "ValueError") = some true
  tyC : typeIn K (.ref C) = some (.type "type")
  xf : XfC K C
  fn : ∃ (oc : Value) (od : Option Addr) (kV doc pm : Value) (an : Option Addr) (cda cc : Addr) (ct : Value) (osl : Array (Option Value)) (m : Str) (j : Nat) (p1 p2 q0 q1 q2 q3 q4 q5 r1 r2 r3 r4 : Pos) (ccl : Value) (cdd : Option Addr) (vs : Array Value) (ccs : Array (Option Value)) (file : Str) (tf : Tok) (cl : Value) (cld : Option Addr) (csl : Array (Option Value)),
    K.lookup fI = some ⟨oc, od, .func (fnX "__init__" qual (xiA f p1 p2) (xiB f m j q0 q1 q2 q3 q4 q5 r1 r2 r3 r4) (xiS f) [("__class__", cc)] .none kV doc pm an (.ref cda) ct), osl⟩ ∧ codeIn K (.ref cda) qual = true ∧
    K.lookup cda = some ⟨ccl, cdd, .fields vs, ccs⟩ ∧ vs[2]? = some (.str file tf) ∧ ((prog.main.file : Str) == file) = true ∧ (q2.endLine == q4.line) = true ∧ K.lookup cc = some ⟨cl, cld, .cell (some (.ref C)), csl⟩
  sup : mg "super" = none
  top : (prog.main.scope.names.lookup ("super" : Str)).isSome = false
  self : mroIn K C (.ref C) = some true
  up : ks_superIn K C C "__init__" = some (some (.builtin "ValueError.__init__"))
  opq : nsIn K cStatics "thirdparty.any" = some none
  nf : f ≠ "self"
  nsup : f ≠ "super"
  ncls : f ≠ "__class__"
  ndb : f ≠ "__debug__"
  bd : ∀ (fd : FuncData) (a v : Value), IsInit f qual fd → bindArgs fd ⟨[a, v], []⟩ = pure ([("self", a), (f, v)] : List (Str × Value))
theorem bd_value {qual : Str} (fd : FuncData) (a v : Value) (h : IsInit "value" qual fd) : bindArgs fd ⟨[a, v], []⟩ = pure ([("self", a), ("value", v)] : List (Str × Value)) := by
  obtain ⟨kV, doc, pm, cdv, ct, an, cc, m, j, p1, p2, q0, q1, q2, q3, q4, q5, r1, r2, r3, r4, rfl⟩ := h
  with_unfolding_all rfl
theorem bd_part {qual : Str} (fd : FuncData) (a v : Value) (h : IsInit "part" qual fd) : bindArgs fd ⟨[a, v], []⟩ = pure ([("self", a), ("part", v)] : List (Str × Value)) := by
  obtain ⟨kV, doc, pm, cdv, ct, an, cc, m, j, p1, p2, q0, q1, q2, q3, q4, q5, r1, r2, r3, r4, rfl⟩ := h
  with_unfolding_all rfl
theorem bd_index {qual : Str} (fd : FuncData) (a v : Value) (h : IsInit "index" qual fd) : bindArgs fd ⟨[a, v], []⟩ = pure ([("self", a), ("index", v)] : List (Str × Value)) := by
  obtain ⟨kV, doc, pm, cdv, ct, an, cc, m, j, p1, p2, q0, q1, q2, q3, q4, q5, r1, r2, r3, r4, rfl⟩ := h
  with_unfolding_all rfl
theorem bd_many {qual : Str} (fd : FuncData) (a v : Value) (h : IsInit "many" qual fd) : bindArgs fd ⟨[a, v], []⟩ = pure ([("self", a), ("many", v)] : List (Str × Value)) := by
  obtain ⟨kV, doc, pm, cdv, ct, an, cc, m, j, p1, p2, q0, q1, q2, q3, q4, q5, r1, r2, r3, r4, rfl⟩ := h
  with_unfolding_all rfl
theorem bd_line {qual : Str} (fd : FuncData) (a v : Value) (h : IsInit "line" qual fd) : bindArgs fd ⟨[a, v], []⟩ = pure ([("self", a), ("line", v)] : List (Str × Value)) := by
  obtain ⟨kV, doc, pm, cdv, ct, an, cc, m, j, p1, p2, q0, q1, q2, q3, q4, q5, r1, r2, r3, r4, rfl⟩ := h
  with_unfolding_all rfl
theorem bd_most {qual : Str} (fd : FuncData) (a v : Value) (h : IsInit "most" qual fd) : bindArgs fd ⟨[a, v], []⟩ = pure ([("self", a), ("most", v)] : List (Str × Value)) := by
  obtain ⟨kV, doc, pm, cdv, ct, an, cc, m, j, p1, p2, q0, q1, q2, q3, q4, q5, r1, r2, r3, r4, rfl⟩ := h
  with_unfolding_all rfl
theorem bd_who {qual : Str} (fd : FuncData) (a v : Value) (h : IsInit "who" qual fd) : bindArgs fd ⟨[a, v], []⟩ = pure ([("self", a), ("who", v)] : List (Str × Value)) := by
  obtain ⟨kV, doc, pm, cdv, ct, an, cc, m, j, p1, p2, q0, q1, q2, q3, q4, q5, r1, r2, r3, r4, rfl⟩ := h
  with_unfolding_all rfl
theorem one_sz (v : Value) : [v].length ≤ sizeLine := by
  rw [sizeLine_eq]
  exact (by decide : 1 ≤ 16777216)
theorem boot_super_ : bootBuiltins "super" = some (.type "super") := by decide +kernel
theorem eqs_ne {a b : Str} (h : a ≠ b) : (b == a) = false := by
  rw [beq_eq_false_iff_ne]
  exact fun e => h e.symm
section
variable {prog : Program} {w : World} {A : Around} {E : Value → Shared → Prop} {R : Result → Shared → Prop} {s : Shared} {K : Frag} {mg mb : Str → Option Value} {x f qual : Str} {C fI : Addr}
theorem xiS_f (h1 : f ≠ "self") : (xiS f).names.lookup f = some .local := by
  unfold xiS
  simp [List.lookup, beq_eq_false_iff_ne.mpr h1]
theorem xiS_self : (xiS f).names.lookup ("self" : Str) = some .local := rfl
theorem xiS_cls (h2 : f ≠ "__class__") : (xiS f).names.lookup ("__class__" : Str) = some .free := by
  unfold xiS
  have a : (("__class__" : Str) == f) = false := eqs_ne h2
  have b : (("__class__" : Str) == ("self" : Str)) = false := by decide
  simp [List.lookup, a, b]
theorem xiS_super (h2 : f ≠ "super") : (xiS f).names.lookup ("super" : Str) = some .globalImplicit := by
  unfold xiS
  have a : (("super" : Str) == f) = false := eqs_ne h2
  have b : (("super" : Str) == ("self" : Str)) = false := by decide
  have c : (("super" : Str) == ("__class__" : Str)) = false := by decide
  simp [List.lookup, a, b, c]
theorem call_tree {o : Expr} {name : Str} {apos pos : Pos} {e : Expr} {env : Env} (h : (apos.endLine == pos.line) = true) (hs : starEach [e] env = (false, eval e env) :: starEach [] env) :
    eval (.Call (.Attribute o name apos) [e] [] pos) env = (do
        let ov ← attributeBase o name env (eval o env)
        standAt apos.atName
        let (f, first) ← holding [ov] (getMethod ov name (do return (← importBound o env).getD true))
        callWith pos f first (backTo pos (starEach [e] env)) []) := by
  show (attributeBase o name env (eval o env) >>= fun ov => standAt apos.atName >>= fun _ => methodCall o name apos pos env ov 1 (backTo pos (starEach [e] env)) (backToKw pos (keywordEach [] env))) = _
  rw [hs]
  unfold methodCall methodCallPos
  have hf : methodCallForm 1 (backTo pos ((false, eval e env) :: starEach [] env)) (backToKw pos (keywordEach [] env)) = true := by rfl
  rw [hf]
  simp only [h, calleeOf, Bool.not_true, Bool.false_or, if_true, pure_bind]
  rfl
theorem tied_up {h : Heap} {g : Array GenState} {d : Drawn} {t : Nat} {os : OsState} {nm q : Str} {N u e t0 : Addr} {bs bm : List Value} {hdct : Bool} {sn : List Str} {sub : List Value} {ab : Bool} {col : Option Bool} {dd : Option Addr} {k0 k1 k2 k3 k5 : Option Value} {B newId initId : String} {bmB : List Value} (FB : ExcBaseFacts B newId initId bmB)
    {rest : List Value} {Q : Value → Shared → Prop}
    (hC : h.get? C = some (excClassObj nm q C N bs bm hdct sn sub ab col dd k0 k1 k2 k3 k5 newId)) (he : h.get? e = some (excO C t0)) (hu : h.get? u = some (kxs_mw initId e)) (hz : rest.length ≤ sizeLine)
    (hq : ∀ h' t1, (∀ b o, b ≠ e → h.get? b = some o → h'.get? b = some o) → h'.get? e = some (excO C t1) → Q .none ⟨h', g, d, t, os⟩) :
    wpAny (model prog w) A (call (.ref u) rest) Q E ⟨h, g, d, t, os⟩ := by
  refine wpAny_call (codeAny_of_tree ?_)
  show wpAny _ A.in1 (callAny (.ref u) ⟨rest, []⟩) _ _ _
  simp only [callAny]
  refine wpAny_bind (wpAny_load hu ?_)
  simp only [kxs_mw, show (Value.type "method-wrapper" == Value.type "method" || Value.type "method-wrapper" == Value.type "builtin_function_or_method" || Value.type "method-wrapper" == Value.type "method-wrapper") = true by decide, if_true]
  refine KFB.if_so (by decide) ?_
  refine wpAny_bind (check_bound_init FB.toExcCallFacts hC he rfl ?_)
  refine wpAny_bind (wpAny_pure (wpAny_pure ?_))
  refine ⟨plainId_quiet FB.init.plain _, codeAny_builtin FB.initEntry ?_⟩
  exact exc_init_tree (cls := .ref C) (t0 := t0) (dv := none) (c2 := .none) (c3 := .none) (b4 := .bool false) he hz fun h' k e' _ => hq h' h.objs.size k e'
theorem tied_init (T : Tied prog K mg x f qual C fI) {e t0 : Addr} {v : Value} {args : Args} (X : K.In s.heap) (hlim : s.heap.NoLimit) (glob : s.heap.Ns mainGlobals mg) (blt : s.heap.Ns builtinsNs mb) (bb : ∀ y : Str, y ≠ "__name__" → mb y = bootBuiltins y)
    (he : s.heap.get? e = some (excO C t0)) (hnx : K.lookup e = none) (hroom : A.depth < recursionLimit) (hb : ∀ fd, IsInit f qual fd → BindsTo s fd args [("self", .ref e), (f, v)])
    (hq : ∀ h' tk dx t1, (∀ b o, b ≠ e → s.heap.get? b = some o → h'.get? b = some o) → h'.get? e = some { cls := .ref C, dict := some dx, data := .fields #[.ref t1, .none, .none, .none, .bool false, .none] } → s.heap.objs.size ≤ dx → dx ≠ e →
      h'.Ns1 dx (fun y => if y = f then some v else none) → R (.ok (.ret .none)) { s with heap := h', toks := tk }) :
    codeAny (model prog w) A (.call (.ref fI) args) R s := by
  obtain ⟨oc, od, kV, doc, pm, an, cda, cc, ct, osl, m, j, p1, p2, q0, q1, q2, q3, q4, q5, r1, r2, r3, r4, ccl, cdd, vs, ccs, file, tf, cl, cld, csl, lk, code, lkc, hvs, hfile, hline, lcell⟩ := T.fn
  obtain ⟨nm, q, N, bs, bm, sn, sub, ab, col, dd, k0, k1, k2, k3, k5, hC, hbm⟩ := T.cls
  have hcl : clsIn K C = some { name := nm, bases := bs, mro := .ref C :: bm, ns := N, qualname := q, hasDict := true, slotNames := sn, subclasses := sub, abstract := ab, collection := col, hasDel := false } := by unfold clsIn; rw [hC] <;> rfl
  have lsf := xiS_f (f := f) T.nf
  have lcs := xiS_cls (f := f) T.ncls
  have lsu := xiS_super (f := f) T.nsup
  refine ks_codeAny_call_defAt (fd := fnX "__init__" qual (xiA f p1 p2) (xiB f m j q0 q1 q2 q3 q4 q5 r1 r2 r3 r4) (xiS f) [("__class__", cc)] .none kV doc pm an (.ref cda) ct) (body := xiB f m j q0 q1 q2 q3 q4 q5 r1 r2 r3 r4) (binds := [("self", .ref e), (f, v)])
    hroom (X _ _ lk) rfl hlim (codeRec_of X code) rfl (hb _ ⟨kV, doc, pm, .ref cda, ct, an, cc, m, j, p1, p2, q0, q1, q2, q3, q4, q5, r1, r2, r3, r4, rfl⟩) (fun y hy => ?_) (fun y hy => ?_) (fun h1 hns kk => ?_) rfl rfl rfl
  · simp only [xiS, List.mem_cons, List.not_mem_nil, or_false] at hy
    rcases hy with rfl | rfl | rfl | rfl <;> (intro z; cases z)
  · simp only [List.mem_cons, List.not_mem_nil, or_false] at hy
    rcases hy with rfl | rfl
    · exact rfl
    · exact lsf
  have X1 : K.In h1 := X.keeps kk
  have he1 := kk _ _ he
  have hself : ([(("self" : Str), Value.ref e), (f, v)].reverse).lookup ("self" : Str) = some (.ref e) := by
    simp [List.lookup, eqs_ne T.nf]
  have hval : ([(("self" : Str), Value.ref e), (f, v)].reverse).lookup f = some v := by
    simp [List.lookup]
  generalize hm : (fun y => ([(("self" : Str), Value.ref e), (f, v)].reverse).lookup y) = m0 at hns
  have e1 : m0 ("self" : Str) = some (.ref e) := by rw [← hm]; exact hself
  have e2 : m0 f = some v := by rw [← hm]; exact hval
  have hlt := hns.lt
  have hLe : s.heap.objs.size ≠ e := Nat.ne_of_gt (Heap.lt_size he)
  refine ks_wpAt_execs_cons (ks_wpAt_Expr_any (ks_wpAt_MethodCall ?h1 (call_tree hline rfl)) rfl rfl)
  case h1 =>
    refine ks_wpAt_super_base (env := callEnv (fnX "__init__" qual (xiA f p1 p2) (xiB f m j q0 q1 q2 q3 q4 q5 r1 r2 r3 r4) (xiS f) [("__class__", cc)] .none kV doc pm an (.ref cda) ct) s.heap.objs.size fI) lsu lcs rfl rfl (X1 _ _ lk) rfl rfl rfl (X1 _ _ lkc) rfl hvs hfile T.top ?_
    refine ks_loadName_global rfl lsu (loadGlobal_builtin (glob.keeps kk) T.sup (blt.keeps kk) ((bb _ (by decide)).trans boot_super_) ⟨rfl, ?_⟩)
    refine wpAny_loadName_free rfl lcs rfl ⟨_, X1 _ _ lcell, rfl⟩ ?_
    refine wpAny_loadName_local rfl xiS_self hns e1 ?_
    refine ks_wpAny_isType_cls (X1 _ _ hC) rfl ⟨rfl, ?_⟩
    refine ks_wpAny_call_super (X1 _ _ hC) rfl he1 rfl (fun c z => by cases z) (looks_mroIn X1 T.self) (fun h2 hso k2 => ?_)
    have X2 : K.In h2 := X1.keeps k2
    have hxC : e ≠ C := fun z => by
      rw [z] at hnx
      rw [hnx] at hC
      cases hC
    have I2 : InstAt h2 e (excO C t0) C none := ⟨k2 _ _ he1, rfl, rfl, trivial⟩
    have hup := T.up
    unfold ks_superIn at hup
    rw [hcl] at hup
    refine kxs_getMethod kxs_ValueError hso (looks_opaque X2 T.opq) (l₀ := .ref C :: bm) ?_ rfl X2 hup (I2.type.andThen (looks_subIn X2 T.isV)) hxC (by decide) ?_
    · exact fun A Q E s k q => wpAny_bind ((looks_clsIn X2 hcl) A _ E s k (wpAny_pure q))
    refine kxs_callWith (i := "ValueError.__init__") (x := e) rfl (evalArgs_plain (Calls.spliced_cons (Calls.Constant_str (k := j) (pos := q3) (Calls.spliced_nil ⟨Heap.get?_push_at rfl rfl, ?_⟩))))
    refine tied_up (C := C) PySem.F.excBase_ValueError (Heap.get?_push_of_some _ (X2 _ _ hC)) (Heap.get?_push_of_some _ I2.at_) (Heap.get?_push_at rfl rfl) (one_sz _) fun h3 t1 k3 he3 => ?_
    have k23 : ∀ b o, b ≠ e → h2.get? b = some o → h3.get? b = some o := fun b o hb z => k3 b o hb (Heap.get?_push_of_some _ z)
    have k13 : ∀ b o, b ≠ e → h1.get? b = some o → h3.get? b = some o := fun b o hb z => k23 b o hb (k2 b o z)
    have X3 : K.In h3 := fun b o z => k13 b o (fun y => by rw [y, hnx] at z; cases z) (X1 _ _ z)
    have hns3 : h3.Ns s.heap.objs.size m0 := by
      obtain ⟨oL, es, ep, hL, r⟩ := hns
      exact ⟨oL, es, ep, k13 _ _ hLe hL, r⟩
    show PySem.wpAt _ _ _ (execs _ _) _ _ _
    refine ks_wpAt_execs_cons (ks_wpAt_Assign_Attr ?_ rfl)
    refine wpAt_of_wpAny (wpAny_Name (wpAny_loadName_local rfl lsf hns3 e2 ?_) (eqs_ne T.ndb.symm))
    refine wpAny_Name (wpAny_loadName_local rfl xiS_self hns3 e1 ?_) (by decide)
    refine set_plain X3 (ox := excO C t1) (od := none) ⟨he3, rfl, rfl, trivial⟩ T.sa ?_
    refine exc_osa X3 he3 hcl (show refsVE (.ref C :: bm) = true from hbm) rfl T.noN (fun h4 tk4 dx k4 dn dne he4 hn4 => ?_)
    show PySem.wpAt _ _ _ (execs _ _) _ _ _
    refine wpAt_of_wpAny (wpAny_execs_nil ?_)
    have z3 : s.heap.objs.size < h3.objs.size := hns3.lt
    exact hq h4 tk4 dx t1 (fun b o hb z => k4 b o hb (k13 b o hb (kk b o z))) he4 (Nat.le_of_lt (Nat.lt_of_lt_of_le z3 dn)) dne hn4
structure Made (f : Str) (h h' : Heap) (e C d : Addr) (v : Value) : Prop where
  keep : ∀ b o, h.get? b = some o → h'.get? b = some o
  new : h.objs.size ≤ e
  obj : ∃ t1 : Addr, h'.get? e = some { cls := .ref C, dict := some d, data := .fields #[.ref t1, .none, .none, .none, .bool false, .none] }
  dbig : h.objs.size ≤ d
  dne : d ≠ e
  ns : h'.Ns1 d (fun y => if y = f then some v else none)
theorem tied_made (T : Tied prog K mg x f qual C fI) {v : Value} (X : K.In s.heap) (hlim : s.heap.NoLimit) (glob : s.heap.Ns mainGlobals mg) (blt : s.heap.Ns builtinsNs mb) (bb : ∀ y : Str, y ≠ "__name__" → mb y = bootBuiltins y) (hroom : A.depth + 1 < recursionLimit)
    (hq : ∀ h' tk e d, Made f s.heap h' e C d v → R (.ok (.ret (.ref e))) { s with heap := h', toks := tk }) :
    codeAny (model prog w) A (.call (.ref C) ⟨[v], []⟩) R s := by
  obtain ⟨nm, q, N, bs, bm, sn, sub, ab, col, dd, k0, k1, k2, k3, k5, hC, hbm⟩ := T.cls
  obtain ⟨hp, g, dr, tk, os⟩ := s
  have k : ∀ b o, hp.get? b = some o → ((hp.push (kdv_tup [v])).push (excO C hp.objs.size)).get? b = some o := fun b o e => Heap.get?_push_of_some _ (Heap.get?_push_of_some _ e)
  have hget : ((hp.push (kdv_tup [v])).push (excO C hp.objs.size)).get? (hp.objs.size + 1) = some (excO C hp.objs.size) := by heap_get
  have hnx : K.lookup (hp.objs.size + 1) = none := by
    cases e : K.lookup (hp.objs.size + 1) with
    | none => rfl
    | some o =>
      have z : hp.get? (hp.objs.size + 1) = some o := X _ _ e
      exact absurd (Nat.lt_of_succ_lt (Heap.lt_size z)) (Nat.lt_irrefl _)
  refine HandSPX.call_own PySem.F.excBase_ValueError (fun X => refsVE_contains X bm hbm) (X _ _ hC) (looks_findIn X T.iC) (fun self => bind_fn X self T.tC) (one_sz v) ?_
  refine tied_init (s := ⟨(hp.push (kdv_tup [v])).push (excO C hp.objs.size), g, dr, tk, os⟩) T (X.keeps k) (hlim.keeps k) (glob.keeps k) (blt.keeps k) bb hget hnx ?_ (fun fd hf => .of_eq (T.bd fd _ _ hf)) fun h' tk' dx t1 k' hx dn dne hns => ?_
  · show A.depth + 1 < recursionLimit
    exact hroom
  · have old : ∀ b o, hp.get? b = some o → h'.get? b = some o := fun b o e => k' b o (Nat.ne_of_lt (Nat.lt_succ_of_lt (Heap.lt_size e))) (k b o e)
    have z : hp.objs.size + 1 + 1 ≤ dx := by
      have q := dn
      rw [Heap.size_push, Heap.size_push] at q
      exact q
    exact ⟨rfl, hq h' tk' (hp.objs.size + 1) dx ⟨old, Nat.le_succ _, ⟨t1, hx⟩, Nat.le_trans (Nat.le_trans (Nat.le_succ _) (Nat.le_succ _)) z, dne, hns⟩⟩
end
theorem relO_one {g : Str} {v : V} {v' : Value} (r : RelV v v') (f : Str) : RelO (List.lookup f [(g, v)]) (if f = g then some v' else none) := by
  by_cases hw : f = g
  · subst hw
    rw [if_pos rfl]
    have q : List.lookup f [(f, v)] = some v := by simp [List.lookup]
    rw [q]
    exact r
  · rw [if_neg hw]
    have q2 : List.lookup f [(g, v)] = none := by simp [List.lookup, beq_eq_false_iff_ne.mpr hw]
    rw [q2]
    trivial
section
variable {X : Cx} {x f qual : Str} {C fI : Addr} {p pos : Pos} {e : Expr} {te : TA}
def tMkT (C : Addr) (f : Str) (ta : TA) : L2.St → Hp → XK → Prop := fun σ H Q => ta σ H fun vs H1 => ∃ v, vs = [v] ∧ ∀ d, H1 d = none → Q (.ref C) (some d) (upd H1 d (.xd [(f, v)]))
theorem pmk_tied {k : Nat} (T : Tied X.prog X.K X.mg x f qual C fI) (hr : Room k X.A) (ha : PA X [e] te) (hg : Gl X x := by rfl) (hdb : (x == ("__debug__" : Str)) = false := by decide)
    (he : starEach (e :: []) X.env = (false, eval e X.env) :: starEach [] X.env := by rfl) (hpl : (backTo pos (starEach [] X.env)).any (·.1) = false := by rfl) :
    PMk X (.Call (.Name x p) [e] [] pos) (tMkT C f te) := by
  intro pins s σ H Q I h
  refine wpAny_Call_Name_kw (ld_glob I hg T.gC ?_ hdb)
  refine PySem.W.callWith_K (h₀ := X.base) I.ok.mod.kin T.kC (thn (ha.run pos pins s σ H _ I h) fun us s1 hh => ?_) he hpl
  obtain ⟨vs, H1, I1, r1, v, ev, q1⟩ := hh
  subst ev
  refine ⟨I1.kIn, ?_⟩
  cases r1 with
  | cons rv rn =>
    rename_i v' us'
    cases rn
    show wpAny _ _ (call (.ref C) [v']) _ _ _
    obtain ⟨mb, blt, bb⟩ := I1.mod.blt
    have lim := I1.nolimit
    have glob := I1.mod.glob.keeps I1.bk
    have blt1 := blt.keeps I1.bk
    obtain ⟨hp, g, dr, tk, os⟩ := s1
    refine wpAny_call (tied_made T I1.kIn lim glob blt1 bb (by have := hr.dp; omega) fun h' tk' e d M => ?_)
    show MkP X pins σ Q (.ref e) ⟨h', g, dr, tk', os⟩
    obtain ⟨t1, hoe⟩ := M.obj
    have hns := M.ns
    obtain ⟨G', g1, g2⟩ := restrict h' fun b => decide (b ≠ e)
    have gk : ∀ b, b ≠ e → G'.get? b = h'.get? b := fun b hb => g1 b (decide_eq_true hb)
    have ge : G'.get? e = none := g2 e (by simp)
    have old : ∀ b o, hp.get? b = some o → G'.get? b = some o := fun b o q => (gk b (Nat.ne_of_lt (Nat.lt_of_lt_of_le (Heap.lt_size q) M.new))).trans (M.keep b o q)
    have ob : ObjOk X.prog X.w (upd H1 d (.xd [(f, v)])) G' d (.xd [(f, v)]) := ⟨_, hns.at (fun o q => (gk d M.dne).trans q), fun y => relO_one rv y⟩
    have J : Inv X pins σ (upd H1 d (.xd [(f, v)])) ⟨G', g, dr, tk', os⟩ := I1.laid (t' := tk') old M.dbig ob
    refine ⟨e, _, _, ⟨G', g, dr, tk', os⟩, _, .ref C, some d, rfl, J, fun b o q => ?_, ge, hoe, ⟨rfl, rfl⟩, rfl, rfl, ?_, rfl, I1.bare, raises_own T.exC T.tyC, q1 d (I1.hok.fresh M.dbig)⟩
    · by_cases hb : b = e
      · have q' : G'.get? b = some o := q
        rw [hb, ge] at q'
        cases q'
      · exact (gk b hb).symm.trans q
    · rw [upd_ne (Ne.symm M.dne)]
      exact I1.hok.fresh M.new
theorem ps_raiseT {W : WX} {k : Nat} {pos2 : Pos} (tk : Takes X W) (T : Tied X.prog X.K X.mg x f qual C fI) (hr : Room k X.A) (ha : PA X [e] te) (hc : X.calm = true := by rfl) (hg : Gl X x := by rfl) (hdb : (x == ("__debug__" : Str)) = false := by decide)
    (he : starEach (e :: []) X.env = (false, eval e X.env) :: starEach [] X.env := by rfl) (hpl : (backTo pos (starEach [] X.env)).any (·.1) = false := by rfl) :
    PS X (.Raise (some (.Call (.Name x p) [e] [] pos)) none pos2) (fun _ σ H => tMkT C f te σ H fun cls d H' => W cls d σ H') := ps_raise hc tk (pmk_tied T hr ha hg hdb he hpl)
end
end Z
set_option maxRecDepth 100000
set_option maxHeartbeats 4000000
namespace Z
open PySem PySem.Spec PyProof.Rows L2
structure Df (K : PySem.W.Frag) (mg : Str → Option Value) (x : Str) (st : Stmt) (ps : List Str) (f : Addr) (fd : FuncData) : Prop where
  mg : mg x = some (.ref f)
  fn : Fun K x x st f fd
  bd : Binds K fd ps []
structure Dm (K : PySem.W.Frag) (C : Addr) (m qual : Str) (st : Stmt) (ps : List Str) (f : Addr) (fd : FuncData) : Prop where
  me : Meth K C m f
  fn : Fun K m qual st f fd
  bd : Binds K fd ps []
section
variable {X : Cx} {e : Expr} {es : List Expr} {t : TA} {p pos : Pos} {x : Str} {st : Stmt} {ps : List Str} {f : Addr} {fd : FuncData} {sp : Sp} {k : Nat}
theorem pe_cf (D : Df X.K X.mg x st ps f fd) (G : FnOk X.prog X.w X.K X.mg X.base CX0 k f fd ps sp) (hr : Room k X.A) (ha : PA X (e :: es) t) (hg : Gl X x := by rfl) (hdb : (x == ("__debug__" : Str)) = false := by decide)
    (he : starEach (e :: es) X.env = (false, eval e X.env) :: starEach es X.env := by rfl) (hpl : (backTo pos (starEach es X.env)).any (·.1) = false := by rfl) :
    PE X (.Call (.Name x p) (e :: es) [] pos) (tCall sp [] E0 t) := pe_call G hr hg D.mg D.fn.kp D.bd .nil pass0 ha hdb he hpl
theorem pe_cfG (D : Df X.K X.mg x st ps f fd) (G : FnG X.prog X.w X.K X.mg X.base CX0 k f fd ps sp) (hr : Room k X.A) (gu : X.A.guards = some []) (ha : PA X (e :: es) t) (hg : Gl X x := by rfl) (hdb : (x == ("__debug__" : Str)) = false := by decide)
    (he : starEach (e :: es) X.env = (false, eval e X.env) :: starEach es X.env := by rfl) (hpl : (backTo pos (starEach es X.env)).any (·.1) = false := by rfl) :
    PE X (.Call (.Name x p) (e :: es) [] pos) (tCallS sp (fun _ _ _ _ => False) t) := pe_callG G hr gu hg D.mg D.fn.kp D.bd passAt0 ha hdb he hpl
end
theorem But.tk {l : Addr} {H H' : Hp} {xs : List V} (b : But l H H') (h : H l = some (.lst xs)) : TK H H' :=
  ⟨fun c ys e => b c _ (ne_of e h (by intro z; cases z)) e, fun c o u e => b c _ (ne_of e h (by intro z; cases z)) e⟩
theorem But.sql {K : PySem.W.Frag} {l a : Addr} {H H' : Hp} {xs : List V} (b : But l H H') (ne : a ≠ l) (h : SqL K H a xs) : SqL K H' a xs := by
  rcases h with (h | ⟨o, h⟩) | h
  · exact .inl (.inl (b _ _ ne h))
  · exact .inl (.inr ⟨o, b _ _ ne h⟩)
  · exact .inr h
inductive Tr where
  | con (n : Int)
  | var (w : Str)
  | cho (a b c d : Tr)
  deriving DecidableEq
namespace Tr
def d : Tr → PyData
  | .con n => .int n
  | .var w => .str w
  | .cho a b c e => .tuple [a.d, b.d, c.d, e.d]
def deep : Tr → Nat
  | .con _ => 1
  | .var _ => 1
  | .cho a b c e => 1 + max (max a.deep b.deep) (max c.deep e.deep)
def str (s : String) : Str := s
def text : Tr → Str
  | .con n => toString n
  | .var w => w
  | .cho a b c e => str "(" ++ a.text ++ str "=" ++ b.text ++ str "?" ++ c.text ++ str ":" ++ e.text ++ str ")"
end Tr
theorem tr_tk {K : PySem.W.Frag} {H H' : Hp} (k : TK H H') : ∀ (t : Tr) {v : V}, Dp K H v t.d → Dp K H' v t.d
  | .con n, _, h => by
    unfold Tr.d at h ⊢
    cases h
    exact .int n
  | .var w, _, h => by
    unfold Tr.d at h ⊢
    cases h
    exact .str w
  | .cho a b c e, v, h => by
    unfold Tr.d at h ⊢
    cases h with
    | tup sq al =>
      cases al with | cons h1 al => cases al with | cons h2 al => cases al with | cons h3 al => cases al with | cons h4 al =>
      cases al
      exact .tup (SqT.tk k sq) (.cons (tr_tk k a h1) (.cons (tr_tk k b h2) (.cons (tr_tk k c h3) (.cons (tr_tk k e h4) .nil))))
theorem tr_con {K : PySem.W.Frag} {H : Hp} {n : Int} {v : V} (h : Dp K H v (Tr.con n).d) : v = .int n := by
  unfold Tr.d at h
  cases h
  rfl
theorem tr_var {K : PySem.W.Frag} {H : Hp} {w : Str} {v : V} (h : Dp K H v (Tr.var w).d) : v = .str w := by
  unfold Tr.d at h
  cases h
  rfl
theorem tr_cho {K : PySem.W.Frag} {H : Hp} {a b c e : Tr} {v : V} (h : Dp K H v (Tr.cho a b c e).d) : ∃ (p : Addr) (v1 v2 v3 v4 : V), v = .ref p ∧ SqT K H p [v1, v2, v3, v4] ∧ Dp K H v1 a.d ∧ Dp K H v2 b.d ∧ Dp K H v3 c.d ∧ Dp K H v4 e.d := by
  unfold Tr.d at h
  cases h with
  | tup sq al =>
    cases al with | cons h1 al => cases al with | cons h2 al => cases al with | cons h3 al => cases al with | cons h4 al =>
    cases al
    exact ⟨_, _, _, _, _, rfl, sq, h1, h2, h3, h4⟩
theorem tr_tup {K : PySem.W.Frag} {H : Hp} {a b c e : Tr} {p : Addr} {v1 v2 v3 v4 : V} (sq : SqT K H p [v1, v2, v3, v4]) (h1 : Dp K H v1 a.d) (h2 : Dp K H v2 b.d) (h3 : Dp K H v3 c.d) (h4 : Dp K H v4 e.d) : Dp K H (.ref p) (Tr.cho a b c e).d :=
  .tup sq (.cons h1 (.cons h2 (.cons h3 (.cons h4 .nil))))
theorem eqv_refl : ∀ t : Tr, PyData.eqv t.d t.d = true
  | .con n => by simp [Tr.d, PyData.eqv]
  | .var w => by simp [Tr.d, PyData.eqv]
  | .cho a b c e => by simp [Tr.d, PyData.eqv, PyData.eqvAll, eqv_refl a, eqv_refl b, eqv_refl c, eqv_refl e]
theorem eqv_tr : ∀ s t : Tr, PyData.eqv s.d t.d = decide (s = t)
  | .con n, .con m => by simp [Tr.d, PyData.eqv, Bool.beq_eq_decide_eq]
  | .con n, .var _ => by simp [Tr.d, PyData.eqv]
  | .con n, .cho _ _ _ _ => by simp [Tr.d, PyData.eqv]
  | .var n, .con m => by simp [Tr.d, PyData.eqv]
  | .var n, .var m => by simp [Tr.d, PyData.eqv, Bool.beq_eq_decide_eq]
  | .var n, .cho _ _ _ _ => by simp [Tr.d, PyData.eqv]
  | .cho _ _ _ _, .con m => by simp [Tr.d, PyData.eqv]
  | .cho _ _ _ _, .var _ => by simp [Tr.d, PyData.eqv]
  | .cho a b c e, .cho a' b' c' e' => by
    simp only [Tr.d, PyData.eqv, PyData.eqvAll, eqv_tr a a', eqv_tr b b', eqv_tr c c', eqv_tr e e', Tr.cho.injEq, Bool.and_true, Bool.decide_and]
def isLet (c : Nat) : Prop := 97 ≤ c ∧ c ≤ 122
def Word (w : Str) : Prop := 1 ≤ w.length ∧ w.length ≤ 8 ∧ ∀ c ∈ w.cps.toList, isLet c
def Tr.Ok : Tr → Prop
  | .con n => 0 ≤ n ∧ n ≤ 9
  | .var w => Word w
  | .cho a b c e => a.Ok ∧ b.Ok ∧ c.Ok ∧ e.Ok
theorem deep_pos : ∀ t : Tr, 1 ≤ t.deep
  | .con _ => Nat.le_refl _
  | .var _ => Nat.le_refl _
  | .cho a b c e => by unfold Tr.deep; omega
theorem d_depth : ∀ t : Tr, t.d.depth ≤ t.deep
  | .con n => by simp [Tr.d, Tr.deep, PyData.depth]
  | .var w => by simp [Tr.d, Tr.deep, PyData.depth]
  | .cho a b c e => by
    have h1 := d_depth a
    have h2 := d_depth b
    have h3 := d_depth c
    have h4 := d_depth e
    simp only [Tr.d, Tr.deep, PyData.depth, PyData.depthAll]
    omega
end Z
set_option maxRecDepth 100000
set_option maxHeartbeats 4000000
namespace Z
open PySem PySem.Spec PyProof.Rows L2
theorem ps_no {X : Cx} {st : Stmt} : PS X st tNever := ⟨fun _ _ _ _ _ _ h => h.elim⟩
theorem pss_no {X : Cx} {st : List Stmt} : PSs X st tNever := ⟨fun _ _ _ _ _ _ h => h.elim⟩
theorem pe_no {X : Cx} {e : Expr} : PE X e (fun _ _ _ => False) := ⟨fun _ _ _ _ _ _ h => h.elim⟩
section
variable {J : It} {n : Nat} {G : Hp → Prop} {Y : Nat → Hp → V → Hp → Prop}
theorem lc_acc (w : Walk J n G Y) {g : TG} {tt : TT} {te : TE} {vs : List Nat} {σ : L2.St} {H1 : Hp} {D : Addr} {Qd : Hp → Prop} (I : Nat → List V → Hp → Prop) (h0 : I 0 [] (upd H1 D (.lst []))) (hG : ∀ i acc H, i ≤ n → H D = some (.lst acc) → I i acc H → G H)
    (hs : ∀ i x acc H H', i < n → H D = some (.lst acc) → I i acc H → Y i H x H' → g x (wipe σ vs) H' fun σ2 H2 => wipe σ2 vs = wipe σ vs ∧ tt σ2 H2 fun b H3 =>
      if b = true then te σ2 H3 fun y H4 => H4 D = some (.lst acc) ∧ acc.length < sizeLine ∧ I (i + 1) (acc ++ [y]) (upd H4 D (.lst (acc ++ [y]))) else H3 D = some (.lst acc) ∧ I (i + 1) acc H3)
    (mtt : ∀ σ H (P P' : Bool → Hp → Prop), (∀ b H, P b H → P' b H) → tt σ H P → tt σ H P')
    (mte : ∀ σ H (P P' : V → Hp → Prop), (∀ b H, P b H → P' b H) → te σ H P → te σ H P')
    (mg : ∀ x σ H (P P' : L2.St → Hp → Prop), (∀ b H, P b H → P' b H) → g x σ H P → g x σ H P')
    (hd : ∀ acc H, H D = some (.lst acc) → I n acc H → Qd H) :
    ∃ W : Nat → Nat → Hp → Prop, (∃ m, W 0 m (upd H1 D (.lst []))) ∧ ∀ i m H, W i m H →
      (J.stop i H ∧ Qd H) ∨ (J.go i H ∧ ∃ Nx : Hp → Prop, (∀ H', Nx H' → ∃ m', m' < m ∧ W (i + 1) m' H') ∧ ∀ x H', J.yld i H x H' → g x (wipe σ vs) H' fun σ2 H2 => wipe σ2 vs = wipe σ vs ∧ tt σ2 H2 fun b H3 =>
        if b = true then te σ2 H3 fun y H4 => ∃ acc, H4 D = some (.lst acc) ∧ acc.length < sizeLine ∧ Nx (upd H4 D (.lst (acc ++ [y]))) else Nx H3) := by
  refine lc_it w (fun i H => ∃ acc, H D = some (.lst acc) ∧ I i acc H) ⟨[], upd_same, h0⟩ (fun i H hi ⟨acc, e, h⟩ => hG i acc H hi e h) (fun i x H H' hi ⟨acc, e, h⟩ y => ?_) (fun H ⟨acc, e, h⟩ => hd acc H e h)
  refine mg _ _ _ _ _ (fun σ2 H2 ⟨h1, h2⟩ => ⟨h1, mtt _ _ _ _ (fun b H3 h3 => ?_) h2⟩) (hs i x acc H H' hi e h y)
  cases b with
  | true => exact mte _ _ _ _ (fun y H4 ⟨p, q, r⟩ => ⟨acc, p, q, acc ++ [y], upd_same, r⟩) h3
  | false => exact ⟨acc, h3⟩
end
section
variable {prog : Program} {w : World} {A : Around} {E : Value → Shared → Prop} {s : Shared} {K : PySem.W.Frag} {x C : Addr} {ox : Obj} {od : Option Obj}
theorem ifBound_objNe {M : Model} {args : List Value} {Q : Option Value → Shared → Prop} (X : K.In s.heap) (I : PySem.W.InstAt s.heap x ox C od) (hs : PySem.W.findIn K (.ref C) "__ne__" = some (some (.builtin "object.__ne__")))
    (h : wpAny M A (call (.builtin "object.__ne__") (.ref x :: args)) (fun v => Q (some v)) E s) : wpAny M A (callSpecialIfBound? (.ref x) "__ne__" args) Q E s := by
  simp only [callSpecialIfBound?, bindSpecialIfBound?]
  refine wpAny_holding (wpAny_bind (wpAny_bind (wpAny_bind (I.type.here ((PySem.W.looks_findIn X hs).here ?_)))))
  refine wpAny_bind (wpAny_askSetting (wpAny_ite ?_))
  have fin : wpAny M A (call (.builtin "object.__ne__") ([.ref x] ++ args) >>= fun v => pure (some v)) Q E s := wpAny_bind (wpAny_mono h (fun v s' h' => wpAny_pure h') fun _ _ h' => h')
  split
  · exact wpAny_bind (wpAny_of_eq (F.cmp_object.ne.bind _) (wpAny_pure (by exact fin)))
  · exact wpAny_tryCatch (wpAny_bind (wpAny_of_eq (F.cmp_object.ne.bind _) (wpAny_pure (by exact fin))))
theorem ne_entry {f b : Addr} {Q : Fin → Shared → Prop} (hu : A.units < cLine) (X : K.In s.heap) (I : PySem.W.InstAt s.heap x ox C od) (hs : PySem.W.findIn K (.ref C) "__eq__" = some (some (.ref f))) (hf : PySem.W.isFn K (.ref f) = true)
    (h : codeAny (model prog w) A (.call (.ref f) ⟨[.ref x, .ref b], []⟩) (fun r s' => match r with | .ok (.ret v) => ∃ r, v = .bool r ∧ Q (.done (.ret (.bool (!r)))) s' | .ok _ => False | .error e => E e s') s) :
    wpAny (model prog w) A (Builtin.«object.__ne__» ⟨[.ref x, .ref b], []⟩) Q E s := by
  unfold Builtin.«object.__ne__»
  repeat (first | with_reducible refine wpAny_cRoomFor hu ?_ | with_reducible refine PySem.W.ifBound_K X I hs hf ?_ | wp_step)
  refine codeAny_mono h fun r s' hv => ?_
  match r, hv with
  | .ok (.ret v), ⟨r, e, q⟩ =>
    subst e
    dsimp only
    refine wpAny_bind (wpAny_truthy_bool ?_)
    exact wpAny_pure q
  | .error e, hv => exact hv
theorem rc_ne {f b : Addr} {Q : Value → Shared → Prop} (hu : A.units + 1 < cLine) (X : K.In s.heap) (I : PySem.W.InstAt s.heap x ox C od) {oy : Obj} {od' : Option Obj} (J : PySem.W.InstAt s.heap b oy C od') (hn : PySem.W.findIn K (.ref C) "__ne__" = some (some (.builtin "object.__ne__")))
    (hs : PySem.W.findIn K (.ref C) "__eq__" = some (some (.ref f))) (hm : PySem.W.mroIn K C (.type "object") = some true) (hf : PySem.W.isFn K (.ref f) = true)
    (h : codeAny (model prog w) A.in1 (.call (.ref f) ⟨[.ref x, .ref b], []⟩) (fun r s' => match r with | .ok (.ret v) => ∃ r, v = .bool r ∧ Q (.bool (!r)) s' | .ok _ => False | .error e => E e s') s) : wpAny (model prog w) A (richCompare .NotEq (.ref x) (.ref b)) Q E s := by
  have hu0 : A.units < cLine := Nat.lt_of_succ_lt hu
  have one : wpAny (model prog w) A (tryCompare (.ref x) "__ne__" (.ref b)) (fun r s' => ∃ v, r = some v ∧ Q v s') E s := by
    unfold tryCompare
    refine wpAny_bind (ifBound_objNe X I hn ?_)
    refine wpAny_call (codeAny_call_builtin F.cmp_object.ne.plain F.cmpEntry_ne (PySem.W.check_slot F.cmpKind_ne F.cmpSplit_ne (I.type.andThen (PySem.W.looks_mroIn X hm)) (F.cmpArgs_ne _ _) ?_))
    refine ne_entry (A := A.in1) hu X I hs hf (codeAny_mono h fun r s' hv => ?_)
    match r, hv with
    | .ok (.ret v), ⟨r, e, q⟩ =>
      subst e
      exact ⟨r, rfl, wpAny_pure ⟨_, rfl, q⟩⟩
    | .error e, hv => exact hv
  unfold richCompare
  simp only [oneThing_ref, cmpInfo_NotEq]
  refine wpAny_holding (wpAny_bind (wpAny_cRoomFor hu0 ?_))
  refine wpAny_bind (I.type.here (wpAny_bind (J.type.here ?_)))
  simp only [bne_self_eq_false, Bool.false_eq_true, if_false]
  refine wpAny_bind (wpAny_pure ?_)
  simp only [Bool.false_eq_true, if_false]
  refine wpAny_bind (wpAny_mono one (fun r s' z => ?_) fun _ _ e => e)
  obtain ⟨v, rfl, hq⟩ := z
  exact wpAny_pure hq
end
section
variable {X : Cx} {CX : CXT} {C f : Addr} {fd : FuncData} {ps : List Str} {sp : Sp} {E : XK} {n : Nat}
def rNeO (C : Addr) (sp : Sp) (E : XK) : R2 := fun x y H Q => ∃ a b dx dy fs gs, x = .ref a ∧ y = .ref b ∧ H a = some (.ins C dx fs) ∧ H b = some (.ins C dy gs) ∧ sp [.ref a, .ref b] H (fun v H' => ∃ r, v = .bl r ∧ Q (.bl (!r)) H') E
theorem op_neOwn (F : FnOk X.prog X.w X.K X.mg X.base CX n f fd ps sp) (hn : PySem.W.findIn X.K (.ref C) "__ne__" = some (some (.builtin "object.__ne__"))) (hs : PySem.W.findIn X.K (.ref C) "__eq__" = some (some (.ref f)))
    (hm : PySem.W.mroIn X.K C (.type "object") = some true) (hf : PySem.W.isFn X.K (.ref f) = true) (hb : Binds X.K fd ps []) (hx : Passes CX X E) (hr : Room (n + 1) X.A) : OpR X (compareOp .NotEq) (rNeO C sp E) := by
  intro pins s σ H x y u v Q I rx ry d
  obtain ⟨a, b, dx, dy, fs, gs, rfl, rfl, ha, hb', hsp⟩ := d
  cases rx
  cases ry
  obtain ⟨mA, J, _⟩ := ins_get I.hok ha
  obtain ⟨mB, J', _⟩ := ins_get I.hok hb'
  obtain ⟨od, J, _⟩ := J.look
  obtain ⟨od', J', _⟩ := J'.look
  refine rc_ne (hu_of hr) I.kIn J J' hn hs hm hf ?_
  have e0 : Env0 X.prog X.w X.K X.mg X.base X.A.in1 X.stack s H := by
    have e := I.env0
    exact ⟨e.frames, e.mod, e.bs, e.bsz, e.funs, e.frf, e.hok, e.bare⟩
  have hl := F.len _ _ _ _ hsp
  have r2 : Vals [V.ref a, V.ref b] [Value.ref a, Value.ref b] := .cons rfl (.cons rfl .nil)
  refine (codeAny_mono (F.run X.A.in1 X.stack s H ⟨[.ref a, .ref b], []⟩ [.ref a, .ref b] [.ref a, .ref b] _ E hr.in1 e0 (by
    have := hb s [.ref a, .ref b] I.kIn (by simpa using hl)
    simpa using this) r2 hsp) fun r s' hq => ?_)
  cases r with
  | error e => exact hx pins σ H s e s' I hq
  | ok fl =>
    cases fl with
    | ret w =>
      obtain ⟨z, H', I', rz, r, ez, ex⟩ := I.after hq
      subst ez
      cases rz
      exact ⟨r, rfl, .bl (!r), H', I', rfl, ex⟩
    | next => exact False.elim hq
    | brk => exact False.elim hq
    | cont => exact False.elim hq
end
structure CSta (K : PySem.W.Frag) (C : Addr) (mc : Value) (m : Str) (p g : Addr) : Prop where
  rd : PySem.W.readsIn K C mc = true
  ga : PySem.W.specialIn K (.ref C) "__getattribute__" = some (some (.builtin "type.__getattribute__"))
  at_ : PySem.W.findCls K (.ref C) mc m = some (.get (.builtin "staticmethod.__get__") (.ref p) .none (.ref C))
  rc : ∃ rest, PySem.W.recIn K p "staticmethod" = some (.ref g :: rest)
  kp : PySem.W.keepIn K (.ref g) = true
section
variable {X : Cx} {CX : CXT} {k : Nat} {C p g : Addr} {mc : Value} {sp : Sp} {E : XK} {o e : Expr} {es : List Expr} {m : Str} {pos apos : Pos} {ta : TE} {t : TA} {pl : Sem Bool} {fd : FuncData} {ps : List Str} {dvs : List V} {ds : List Value}
def tSta (C : Addr) (sp : Sp) (E : XK) (ta : TE) (t : TA) : TE := fun σ H Q => ta σ H fun x H1 => x = .ref C ∧ t σ H1 fun vs H2 => sp vs H2 Q E
theorem pe_sta (he : PE X o ta) (c : CSta X.K C mc m p g) (F : FnOk X.prog X.w X.K X.mg X.base CX k g fd ps sp) (hr : Room k X.A) (hb : Binds X.K fd ps []) (hx : Passes CX X E) (ha : PA X (e :: es) t)
    (hst : starEach (e :: es) X.env = (false, eval e X.env) :: starEach es X.env := by rfl) (hpl : (backTo pos (starEach es X.env)).any (·.1) = false := by rfl)
    (ht : eval (.Call (.Attribute o m apos) (e :: es) [] pos) X.env = (do
      let ov ← eval o X.env
      standAt apos.atName
      let (f, first) ← holding [ov] (getMethod ov m pl)
      callWith pos f first (backTo pos (starEach (e :: es) X.env)) (backToKw pos (keywordEach [] X.env))) := by rfl) :
    PE X (.Call (.Attribute o m apos) (e :: es) [] pos) (tSta C sp E ta t) := by
  refine ⟨fun pins s σ H Q I h => ?_⟩
  refine PySem.W.methodCall_KW (pl := pl) (thn (he.run pins s σ H _ I h) fun u s1 ⟨x, H1, I1, rx, ex, q⟩ => ?_) ht
  subst ex
  obtain rfl : u = Value.ref C := rx
  obtain ⟨rest, hp⟩ := c.rc
  refine PySem.W.method_cls I1.kIn c.ga (PySem.W.cls_bind I1.kIn c.rd c.at_ (wpAny_call (PySem.W.sm_get (s := { s1 with toks := s1.toks + 1 }) I1.kIn hp (PySem.W.handed_on rfl ?_))))
  refine PySem.W.callWith_K (first := []) (h₀ := X.base) I.ok.mod.kin c.kp (thn (ha.run pos pins _ σ H1 _ (I1.tok _) q) fun us s2 ⟨vs, H2, I2, r, q2⟩ => ⟨I2.kIn, ?_⟩) hst hpl
  exact run_fn (us := us) (vs := vs) F hr hb .nil hx I2 r (by rw [List.append_nil]; exact q2)
end
end Z
set_option maxRecDepth 100000
set_option maxHeartbeats 4000000
namespace Z
open PySem PySem.Spec PyProof.Rows L2
def tx (l : List Nat) : Str := ⟨l.toArray⟩
def ls (s : Str) : List Nat := s.cps.toList
theorem tx_ls (s : Str) : tx (ls s) = s := by cases s; simp [tx, ls]
theorem ls_tx (l : List Nat) : ls (tx l) = l := by simp [tx, ls]
theorem ls_app (a b : Str) : ls (a ++ b) = ls a ++ ls b := by
  show (a.cps ++ b.cps).toList = _
  simp [ls]
theorem ls_len (s : Str) : (ls s).length = s.length := by simp [ls, Str.length]
theorem tx_len (l : List Nat) : (tx l).length = l.length := by simp [tx, Str.length]
theorem len_app (a b : Str) : (a ++ b).length = a.length + b.length := by rw [← ls_len, ls_app, List.length_append, ls_len, ls_len]
theorem str_ext {a b : Str} (h : ls a = ls b) : a = b := by rw [← tx_ls a, ← tx_ls b, h]
def isLB (c : Nat) : Bool := decide (97 ≤ c) && decide (c ≤ 122)
def isDB (c : Nat) : Bool := decide (48 ≤ c) && decide (c ≤ 57)
def sLet : Str := "abcdefghijklmnopqrstuvwxyz"
def sDig : Str := "0123456789"
theorem ls_let : ls sLet = List.range' 97 26 := by decide +kernel
theorem ls_dig : ls sDig = List.range' 48 10 := by decide +kernel
theorem mem_let (c : Nat) : decide (c ∈ ls sLet) = isLB c := by
  rw [ls_let]
  unfold isLB
  rw [← Bool.decide_and]
  congr 1
  rw [List.mem_range'_1]
  apply propext
  omega
theorem mem_dig (c : Nat) : decide (c ∈ ls sDig) = isDB c := by
  rw [ls_dig]
  unfold isDB
  rw [← Bool.decide_and]
  congr 1
  rw [List.mem_range'_1]
  apply propext
  omega
theorem mem_let' (c : Nat) : decide (c ∈ ("abcdefghijklmnopqrstuvwxyz" : Str).cps.toList) = isLB c := mem_let c
theorem mem_dig' (c : Nat) : decide (c ∈ ("0123456789" : Str).cps.toList) = isDB c := mem_dig c
theorem isLB_iff {c : Nat} : isLB c = true ↔ isLet c := by simp [isLB, isLet]
def wordB (l : List Nat) : Bool := (decide (1 ≤ l.length) && decide (l.length ≤ 8)) && l.all isLB
theorem wordB_iff {w : Str} : wordB (ls w) = true ↔ Word w := by
  unfold wordB Word
  rw [ls_len, Bool.and_eq_true, Bool.and_eq_true, decide_eq_true_eq, decide_eq_true_eq, List.all_eq_true]
  exact ⟨fun ⟨⟨a, b⟩, c⟩ => ⟨a, b, fun x hx => isLB_iff.mp (c x hx)⟩, fun ⟨a, b, c⟩ => ⟨⟨a, b⟩, fun x hx => isLB_iff.mpr (c x hx)⟩⟩
def plp (f : List Nat → Option (Tr × List Nat)) : List Nat → List Nat → Option (List Tr × List Nat)
  | [], r => some ([], r)
  | s :: ss, r => match f r with
    | some (t, c :: q) => if c = s then (match plp f ss q with
      | some (ts, z) => some (t :: ts, z)
      | none => none) else none
    | _ => none
def plx : Option (List Tr × List Nat) → Option (Tr × List Nat)
  | some ([a, b, c, e], z) => some (.cho a b c e, z)
  | _ => none
def pl : Nat → List Nat → Option (Tr × List Nat)
  | 0, _ => none
  | d + 1, [] => none
  | d + 1, c :: r =>
    if isDB c = true then some (.con ((c : Int) - 48), r)
    else if wordB ((c :: r).takeWhile isLB) = true then some (.var (tx ((c :: r).takeWhile isLB)), (c :: r).dropWhile isLB)
    else if c ≠ 40 ∨ d = 0 then none
    else plx (plp (pl d) [61, 63, 58, 41] r)
theorem plp_len {f : List Nat → Option (Tr × List Nat)} : ∀ {ss r ts z}, plp f ss r = some (ts, z) → ts.length = ss.length
  | [], r, ts, z, h => by
    simp [plp] at h
    rw [h.1]
    rfl
  | s :: ss, r, ts, z, h => by
    unfold plp at h
    split at h
    · rename_i t c q e
      split at h
      · split at h
        · rename_i us y e2
          cases h
          rw [List.length_cons, List.length_cons, plp_len e2]
        · cases h
      · cases h
    · cases h
def planOf (z : Str) : Option Tr := match pl 3 (ls z) with
  | some (t, []) => some t
  | _ => none
def Ends (r : List Nat) : Prop := ∀ c q, r = c :: q → isLB c = false
theorem take_word {l r : List Nat} (h : ∀ c ∈ l, isLB c = true) (e : Ends r) : (l ++ r).takeWhile isLB = l ∧ (l ++ r).dropWhile isLB = r := by
  induction l with
  | nil =>
    cases r with
    | nil => exact ⟨rfl, rfl⟩
    | cons c q =>
      have := e c q rfl
      simp [this]
  | cons c l ih =>
    have h1 := h c List.mem_cons_self
    have := ih fun x hx => h x (List.mem_cons_of_mem _ hx)
    simp only [List.cons_append, List.takeWhile_cons, List.dropWhile_cons, h1, if_true]
    exact ⟨congrArg (c :: ·) this.1, this.2⟩
theorem con_text {n : Int} (h : 0 ≤ n ∧ n ≤ 9) : ls (Tr.con n).text = [48 + n.toNat] := by
  have : n = 0 ∨ n = 1 ∨ n = 2 ∨ n = 3 ∨ n = 4 ∨ n = 5 ∨ n = 6 ∨ n = 7 ∨ n = 8 ∨ n = 9 := by omega
  rcases this with rfl | rfl | rfl | rfl | rfl | rfl | rfl | rfl | rfl | rfl <;> decide +kernel
theorem cho_text (a b c e : Tr) : ls (Tr.cho a b c e).text = 40 :: (ls a.text ++ (61 :: (ls b.text ++ (63 :: (ls c.text ++ (58 :: (ls e.text ++ [41]))))))) := by
  show ls (Tr.str "(" ++ a.text ++ Tr.str "=" ++ b.text ++ Tr.str "?" ++ c.text ++ Tr.str ":" ++ e.text ++ Tr.str ")") = _
  simp only [ls_app]
  have h1 : ls (Tr.str "(") = [40] := by decide +kernel
  have h2 : ls (Tr.str "=") = [61] := by decide +kernel
  have h3 : ls (Tr.str "?") = [63] := by decide +kernel
  have h4 : ls (Tr.str ":") = [58] := by decide +kernel
  have h5 : ls (Tr.str ")") = [41] := by decide +kernel
  rw [h1, h2, h3, h4, h5]
  simp
theorem pl_text : ∀ (t : Tr) (d : Nat) (r : List Nat), t.Ok → t.deep ≤ d → Ends r → pl d (ls t.text ++ r) = some (t, r)
  | .con n, d, r, ok, hd, e => by
    obtain ⟨d, rfl⟩ : ∃ k, d = k + 1 := ⟨d - 1, by have := deep_pos (.con n); omega⟩
    have ok' : 0 ≤ n ∧ n ≤ 9 := ok
    rw [con_text ok']
    show pl (d + 1) ((48 + n.toNat) :: r) = _
    unfold pl
    have : isDB (48 + n.toNat) = true := by
      unfold isDB
      simp
      omega
    rw [if_pos this]
    have z : ((48 + n.toNat : Nat) : Int) - 48 = n := by omega
    rw [z]
  | .var w, d, r, ok, hd, e => by
    obtain ⟨d, rfl⟩ : ∃ k, d = k + 1 := ⟨d - 1, by have := deep_pos (.var w); omega⟩
    have ok' : Word w := ok
    have wb := wordB_iff.mpr ok'
    have al : ∀ c ∈ ls w, isLB c = true := fun c hc => isLB_iff.mpr (ok'.2.2 c hc)
    obtain ⟨t1, t2⟩ := take_word al e
    show pl (d + 1) (ls w ++ r) = _
    have ne : 1 ≤ (ls w).length := by rw [ls_len]; exact ok'.1
    generalize hl : ls w = l at *
    cases l with
    | nil => simp at ne
    | cons c l =>
      have hc := al c List.mem_cons_self
      show pl (d + 1) (c :: (l ++ r)) = _
      unfold pl
      have nd : isDB c = false := by
        unfold isLB at hc
        unfold isDB
        simp at hc ⊢
        omega
      rw [if_neg (by rw [nd]; decide)]
      have t1' : (c :: (l ++ r)).takeWhile isLB = c :: l := t1
      have t2' : (c :: (l ++ r)).dropWhile isLB = r := t2
      rw [t1', t2', if_pos wb, ← hl, tx_ls]
  | .cho a b c f, d, r, ok, hd, e => by
    obtain ⟨oa, ob, oc, oe⟩ : a.Ok ∧ b.Ok ∧ c.Ok ∧ f.Ok := ok
    have hd' : 1 + max (max a.deep b.deep) (max c.deep f.deep) ≤ d := hd
    obtain ⟨d, rfl⟩ : ∃ k, d = k + 1 := ⟨d - 1, by omega⟩
    rw [cho_text]
    have pa := deep_pos a
    have E : ∀ s : Nat, isLB s = false → ∀ q : List Nat, Ends (s :: q) := fun s hs q c q' h => by
      cases h
      exact hs
    have ha := pl_text a d (61 :: (ls b.text ++ (63 :: (ls c.text ++ (58 :: (ls f.text ++ (41 :: r))))))) oa (by omega) (E _ (by decide) _)
    have hb := pl_text b d (63 :: (ls c.text ++ (58 :: (ls f.text ++ (41 :: r))))) ob (by omega) (E _ (by decide) _)
    have hc := pl_text c d (58 :: (ls f.text ++ (41 :: r))) oc (by omega) (E _ (by decide) _)
    have he := pl_text f d (41 :: r) oe (by omega) (E _ (by decide) _)
    simp only [List.cons_append, List.append_assoc, List.nil_append]
    unfold pl
    have h1 : isDB 40 = false := by decide
    have h2 : ∀ q : List Nat, (40 :: q).takeWhile isLB = [] := fun q => by
      have : isLB 40 = false := by decide
      simp [this]
    rw [if_neg (by rw [h1]; decide), h2, if_neg (by decide), if_neg (by omega)]
    simp only [plp, ha, hb, hc, he, plx, if_true]
theorem plan_text {t : Tr} (ok : t.Ok) (hd : t.deep ≤ 3) : planOf t.text = some t := by
  unfold planOf
  have := pl_text t 3 [] ok hd (fun c q h => by cases h)
  rw [List.append_nil] at this
  rw [this]
def tB : Nat → Nat
  | 0 => 0
  | d + 1 => 4 * tB d + 8
theorem text_len : ∀ (d : Nat) (t : Tr), t.Ok → t.deep ≤ d → t.text.length ≤ tB d
  | 0, t, _, hd => by have := deep_pos t; omega
  | d + 1, .con n, ok, hd => by
    rw [← ls_len, con_text ok]
    show 1 ≤ 4 * tB d + 8
    omega
  | d + 1, .var w, ok, hd => by
    have ok' : Word w := ok
    show w.length ≤ 4 * tB d + 8
    have := ok'.2.1
    omega
  | d + 1, .cho a b c e, ok, hd => by
    obtain ⟨oa, ob, oc, oe⟩ : a.Ok ∧ b.Ok ∧ c.Ok ∧ e.Ok := ok
    have hd' : 1 + max (max a.deep b.deep) (max c.deep e.deep) ≤ d + 1 := hd
    have h1 := text_len d a oa (by omega)
    have h2 := text_len d b ob (by omega)
    have h3 := text_len d c oc (by omega)
    have h4 := text_len d e oe (by omega)
    rw [← ls_len, cho_text]
    simp only [List.length_cons, List.length_append, ls_len, List.length_nil]
    show _ ≤ 4 * tB d + 8
    omega
theorem text_small {t : Tr} (ok : t.Ok) (hd : t.deep ≤ 3) : t.text.length ≤ 168 := text_len 3 t ok hd
def Tr.has (p : Tr) : Tr → Bool
  | .con n => decide (p = .con n)
  | .var w => decide (p = .var w)
  | .cho a b c e => decide (p = .cho a b c e) || (p.has a || (p.has b || (p.has c || p.has e)))
theorem show_small : ∀ (t : Tr), t.Ok → t.d.showable = true
  | .con n, ok => by
    have ok' : 0 ≤ n ∧ n ≤ 9 := ok
    have : n.natAbs.log2 < 1920 := Nat.lt_of_le_of_lt (Nat.log2_le_self _) (by omega)
    simp [Tr.d, PyData.showable, this]
  | .var w, ok => by simp [Tr.d, PyData.showable]
  | .cho a b c e, ok => by
    obtain ⟨oa, ob, oc, oe⟩ : a.Ok ∧ b.Ok ∧ c.Ok ∧ e.Ok := ok
    simp [Tr.d, PyData.showable, PyData.showableAll, show_small a oa, show_small b ob, show_small c oc, show_small e oe]
def sB : Nat → Nat
  | 0 => 0
  | d + 1 => 4 * sB d + 90
theorem shown_len : ∀ (d : Nat) (t : Tr), t.Ok → t.deep ≤ d → t.d.shown.length ≤ sB d
  | 0, t, _, hd => by have := deep_pos t; omega
  | d + 1, .con n, ok, hd => by
    have : (Tr.con n).d.shown = (Tr.con n).text := by
      unfold Tr.d
      simp only [PyData.shown]
      rfl
    rw [this, ← ls_len, con_text ok]
    show 1 ≤ 4 * sB d + 90
    omega
  | d + 1, .var w, ok, hd => by
    have ok' : Word w := ok
    have : (Tr.var w).d.shown = reprText w := by
      unfold Tr.d
      simp only [PyData.shown]
    rw [this]
    have h := PySem.StrLaws.reprText_len w fun c hc => by
      have := (ok'.2.2 c hc).2
      exact Nat.lt_of_le_of_lt this (by decide)
    have := ok'.2.1
    show _ ≤ 4 * sB d + 90
    omega
  | d + 1, .cho a b c e, ok, hd => by
    obtain ⟨oa, ob, oc, oe⟩ : a.Ok ∧ b.Ok ∧ c.Ok ∧ e.Ok := ok
    have hd' : 1 + max (max a.deep b.deep) (max c.deep e.deep) ≤ d + 1 := hd
    have h1 := shown_len d a oa (by omega)
    have h2 := shown_len d b ob (by omega)
    have h3 := shown_len d c oc (by omega)
    have h4 := shown_len d e oe (by omega)
    have : (Tr.cho a b c e).d.shown = tupleText [a.d.shown, b.d.shown, c.d.shown, e.d.shown] := by
      conv => lhs; unfold Tr.d
      simp only [PyData.shown, PyData.shownAll]
    rw [this]
    refine Nat.le_trans (tupleText_len_le _) ?_
    simp only [List.map_cons, List.map_nil, List.sum_cons, List.sum_nil, List.length_cons, List.length_nil]
    show _ ≤ 4 * sB d + 90
    omega
theorem shown_small {t : Tr} (ok : t.Ok) (hd : t.deep ≤ 3) : t.d.shown.length ≤ sizeLine := Nat.le_trans (shown_len 3 t ok hd) (by decide)
end Z
set_option maxRecDepth 100000
set_option maxHeartbeats 4000000
namespace Z
open PySem PySem.Spec PyProof.Rows L2
section
variable {X : Cx} {CX : CXT} {k : Nat} {f C : Addr} {fd : FuncData} {ps : List Str} {sp : Sp} {E : L2.St → XK} {x m : Str} {p pos apos : Pos} {e o : Expr} {es : List Expr} {ta : TE} {t : TA}
def tMethX (C : Addr) (m : Str) (sp : Sp) (E : L2.St → XK) (ta : TE) (t : TA) : TE := fun σ H Q => ta σ H fun x H1 => ∃ a dx fs, x = .ref a ∧ H1 a = some (.ins C dx fs) ∧ fs.lookup m = none ∧ t σ H1 fun vs H2 => sp (x :: vs) H2 Q (E σ)
theorem pe_methX {pl : Sem Bool} (he : PE X o ta) (c : Cls X.K C) (hm : Meth X.K C m f) (F : FnOk X.prog X.w X.K X.mg X.base CX k f fd ps sp) (hr : Room k X.A) (hb : Binds X.K fd ps []) (hx : ∀ σ, PassesAt CX X σ (E σ)) (ha : PA X (e :: es) t)
    (hst : starEach (e :: es) X.env = (false, eval e X.env) :: starEach es X.env := by rfl) (hpl : (backTo pos (starEach es X.env)).any (·.1) = false := by rfl)
    (ht : eval (.Call (.Attribute o m apos) (e :: es) [] pos) X.env = (do
      let ov ← eval o X.env
      standAt apos.atName
      let (f, first) ← holding [ov] (getMethod ov m pl)
      callWith pos f first (backTo pos (starEach (e :: es) X.env)) (backToKw pos (keywordEach [] X.env))) := by rfl) :
    PE X (.Call (.Attribute o m apos) (e :: es) [] pos) (tMethX C m sp E ta t) := by
  refine ⟨fun pins s σ H Q I h => ?_⟩
  refine PySem.W.methodCall_KW (pl := pl) (thn (he.run pins s σ H _ I h) fun u s1 ⟨x, H1, I1, rx, a, dx, fs, ex, ea, l, q⟩ => ?_) ht
  subst ex
  obtain rfl : u = Value.ref a := rx
  refine getmeth_ok I1 ea c hm l ?_
  refine PySem.W.callWith_K (first := [.ref a]) (h₀ := X.base) I.ok.mod.kin hm.kp (thn (ha.run pos pins s1 σ H1 _ I1 q) fun us s2 ⟨vs, H2, I2, r, q2⟩ => ⟨I2.kIn, ?_⟩) hst hpl
  exact run_fnS (us := .ref a :: us) (vs := .ref a :: vs) F hr hb (hx σ) I2 (.cons rfl r) q2
theorem pe_gs {s : Str} (h : ∃ t, X.mg x = some (.str s t)) (hg : Gl X x := by rfl) (hd : (x == ("__debug__" : Str)) = false := by decide) : PE X (.Name x pos) (tC (.str s)) := by
  obtain ⟨t, h⟩ := h
  exact pe_glob hg h ⟨t, rfl⟩ hd
theorem pe_gi {s : Int} (h : ∃ t, X.mg x = some (.int s t)) (hg : Gl X x := by rfl) (hd : (x == ("__debug__" : Str)) = false := by decide) : PE X (.Name x pos) (tC (.int s)) := by
  obtain ⟨t, h⟩ := h
  exact pe_glob hg h ⟨t, rfl⟩ hd
theorem pe_gr {a : Addr} (h : X.mg x = some (.ref a)) (hg : Gl X x := by rfl) (hd : (x == ("__debug__" : Str)) = false := by decide) : PE X (.Name x pos) (tC (.ref a)) := pe_glob hg h rfl hd
end
theorem tyT {K : PySem.W.Frag} {H : Hp} {p : Addr} {xs : List V} (h : SqT K H p xs) : TyX K H (.ref p) (.type "tuple") := by
  rcases h with (h | ⟨o, h⟩) | ⟨o, vs, n, h, c, _⟩
  · exact .base (.tup h)
  · exact .fTuple h
  · exact .kTuple h c
def Tr.isT : Tr → Bool
  | .cho _ _ _ _ => true
  | _ => false
theorem k_tt : kitB "tuple" "tuple" = some true := by decide +kernel
theorem k_it : kitB "int" "tuple" = some false := by decide +kernel
theorem k_st : kitB "str" "tuple" = some false := by decide +kernel
theorem k_ii : kitB "int" "int" = some true := by decide +kernel
theorem k_ib : kitB "int" "bool" = some false := by decide +kernel
theorem k_si : kitB "str" "int" = some false := by decide +kernel
theorem k_ss : kitB "str" "str" = some true := by decide +kernel
theorem isiTr {K : PySem.W.Frag} {H : Hp} {t : Tr} {v : V} {Q : VK} (h : Dp K H v t.d) (q : Q (.bl t.isT) H) : rIsi K [v, .ty "tuple"] H Q ∨ rIsiT K [v, .ty "tuple"] H Q := by
  cases t with
  | con n =>
    obtain rfl := tr_con h
    exact isiTy (.base (.int n)) k_it q
  | var w =>
    obtain rfl := tr_var h
    exact isiTy (.base (.str w)) k_st q
  | cho a b c e =>
    obtain ⟨p, v1, v2, v3, v4, rfl, sq, _⟩ := tr_cho h
    exact isiTy (tyT sq) k_tt q
def Tr.Fine (t : Tr) : Prop := t.Ok ∧ t.deep ≤ 60
theorem word_strOk {w : Str} (h : Word w) : PyData.strOk w = true := by
  unfold PyData.strOk
  rw [← Array.all_toList, List.all_eq_true]
  intro c hc
  have := (h.2.2 c hc).2
  exact decide_eq_true (by omega)
theorem canLay_tr : ∀ t : Tr, t.Ok → PyData.canLay0 t.d = true
  | .con n, _ => by simp [Tr.d, PyData.canLay0]
  | .var w, ok => by
    have := word_strOk (show Word w from ok)
    simp [Tr.d, PyData.canLay0, this]
  | .cho a b c e, ok => by
    obtain ⟨oa, ob, oc, oe⟩ : a.Ok ∧ b.Ok ∧ c.Ok ∧ e.Ok := ok
    simp [Tr.d, PyData.canLay0, PyData.canLayAll0, canLay_tr a oa, canLay_tr b ob, canLay_tr c oc, canLay_tr e oe]
theorem shaped_tr {t : Tr} (h : t.Fine) : SeqAt.shaped t.d = true := by
  have h1 := canLay_tr t h.1
  have h2 := d_depth t
  have h3 := h.2
  unfold SeqAt.shaped
  rw [h1, Bool.true_and]
  exact decide_eq_true (by omega)
section
variable {X : Cx}
def rEqE (K : PySem.W.Frag) (neg : Bool) : R2 := fun x y H Q => ∃ a b xs, x = .ref a ∧ y = .ref b ∧ SqL K H a xs ∧ SqL K H b [] ∧ Q (.bl (if neg then !xs.isEmpty else xs.isEmpty)) H
theorem op_eqE (hu : X.A.units < cLine) : OpR X (compareOp .Eq) (rEqE X.K false) := by
  intro pins s σ H x y u v Q I rx ry ⟨a, b, xs, e1, e2, h1, h2, q⟩
  subst e1; subst e2
  cases rx
  cases ry
  obtain ⟨its, r, p, _⟩ := I.list h1
  obtain ⟨its2, r2, p2, _⟩ := I.list h2
  cases r2
  have hl : s.heap.IsList a its.toArray := by obtain ⟨o, n, e1, e2, e3, e4⟩ := p; exact ⟨_, e1, e2, n, e4⟩
  have hb : s.heap.IsList b #[] := by obtain ⟨o, n, e1, e2, e3, e4⟩ := p2; exact ⟨_, e1, e2, n, e4⟩
  cases r with
  | nil => exact SeqAt.RcAt.lists (e := fun _ => true) hl hb rfl hu (fun j h1 _ => absurd h1 (Nat.not_lt_zero _)) _ _ _ _ ⟨.bl true, H, I, rfl, q⟩
  | cons r1 r2 => exact SeqAt.RcAt.lists_lengths hl hb (by simp) hu _ _ _ _ ⟨.bl false, H, I, rfl, q⟩
theorem op_neE (hu : X.A.units < cLine) : OpR X (compareOp .NotEq) (rEqE X.K true) := by
  intro pins s σ H x y u v Q I rx ry ⟨a, b, xs, e1, e2, h1, h2, q⟩
  subst e1; subst e2
  cases rx
  cases ry
  obtain ⟨its, r, p, _⟩ := I.list h1
  obtain ⟨its2, r2, p2, _⟩ := I.list h2
  cases r2
  have hl : s.heap.IsList a its.toArray := by obtain ⟨o, n, e1, e2, e3, e4⟩ := p; exact ⟨_, e1, e2, n, e4⟩
  have hb : s.heap.IsList b #[] := by obtain ⟨o, n, e1, e2, e3, e4⟩ := p2; exact ⟨_, e1, e2, n, e4⟩
  cases r with
  | nil => exact SeqAt.RcNeAt.lists (e := fun _ => true) hl hb rfl hu (fun j h1 _ => absurd h1 (Nat.not_lt_zero _)) _ _ _ _ ⟨.bl false, H, I, rfl, q⟩
  | cons r1 r2 => exact SeqAt.RcNeAt.lists_lengths hl hb (by simp) hu _ _ _ _ ⟨.bl true, H, I, rfl, q⟩
structure rEqX (K : PySem.W.Frag) (x y : V) (H : Hp) (Q : VK) : Prop where
  h : rEq x y H Q ∨ rEqE K false x y H Q ∨ rEqD K x y H Q
structure rNeX (K : PySem.W.Frag) (x y : V) (H : Hp) (Q : VK) : Prop where
  h : rNe x y H Q ∨ rEqE K true x y H Q ∨ rNeD K x y H Q
theorem op_eqX {k : Nat} {K : PySem.W.Frag} (hr : Room k X.A) (hk : X.K = K := by rfl) : OpR X (compareOp .Eq) (rEqX K) := by
  subst hk
  exact OpR.box (OpR.or op_eq (OpR.or (op_eqE hr.units0) (op_eqD hr.units))) fun _ _ _ _ q => q.h
theorem op_neX {k : Nat} {K : PySem.W.Frag} (hr : Room k X.A) (hk : X.K = K := by rfl) : OpR X (compareOp .NotEq) (rNeX K) := by
  subst hk
  exact OpR.box (OpR.or op_ne (OpR.or (op_neE hr.units0) (op_neD hr.units))) fun _ _ _ _ q => q.h
theorem op_eqU {K : PySem.W.Frag} (hu : X.A.units + 64 < cLine) (hk : X.K = K := by rfl) : OpR X (compareOp .Eq) (rEqX K) := by
  subst hk
  exact OpR.box (OpR.or op_eq (OpR.or (op_eqE (Nat.lt_of_le_of_lt (Nat.le_add_right _ _) hu)) (op_eqD hu))) fun _ _ _ _ q => q.h
structure rIxA (K : PySem.W.Frag) (x y : V) (H : Hp) (Q : VK) : Prop where
  h : rIx K x y H Q
theorem IxR.box {r r' : R2} (h : IxR X r) (e : ∀ x y H Q, r' x y H Q → r x y H Q) : IxR X r' := fun a b pins s σ H x y v u Q I rx ry q => h a b pins s σ H x y v u Q I rx ry (e _ _ _ _ q)
theorem ix_A {K : PySem.W.Frag} (hk : X.K = K := by rfl) : IxR X (rIxA K) := by
  subst hk
  exact IxR.box ix_seq fun _ _ _ _ q => q.h
end
theorem eqI {K : PySem.W.Frag} {H : Hp} {Q : VK} {i j : Int} (q : Q (.bl (decide (i = j))) H) : rEqX K (.int i) (.int j) H Q := ⟨.inl ⟨rfl, by simpa using q⟩⟩
theorem neI {K : PySem.W.Frag} {H : Hp} {Q : VK} {i j : Int} (q : Q (.bl (!decide (i = j))) H) : rNeX K (.int i) (.int j) H Q := ⟨.inl ⟨rfl, by simpa using q⟩⟩
theorem eqS {K : PySem.W.Frag} {H : Hp} {Q : VK} {i j : Str} (q : Q (.bl (decide (i = j))) H) : rEqX K (.str i) (.str j) H Q := ⟨.inl ⟨rfl, by simpa using q⟩⟩
theorem neS {K : PySem.W.Frag} {H : Hp} {Q : VK} {i j : Str} (q : Q (.bl (!decide (i = j))) H) : rNeX K (.str i) (.str j) H Q := ⟨.inl ⟨rfl, by simpa using q⟩⟩
theorem neB {K : PySem.W.Frag} {H : Hp} {Q : VK} {i j : Bool} (q : Q (.bl (!decide (i = j))) H) : rNeX K (.bl i) (.bl j) H Q := ⟨.inl ⟨rfl, by simpa using q⟩⟩
theorem eqT {K : PySem.W.Frag} {H : Hp} {Q : VK} {x y : V} {s t : Tr} (h : Dp K H x s.d) (h' : Dp K H y t.d) (hs : s.Fine) (ht : t.Fine) (q : Q (.bl (decide (s = t))) H) : rEqX K x y H Q :=
  ⟨.inr (.inr ⟨_, _, h, h', shaped_tr hs, shaped_tr ht, by rw [eqv_tr]; exact q⟩)⟩
theorem eqL0 {K : PySem.W.Frag} {H : Hp} {Q : VK} {a b : Addr} {xs : List V} (ha : SqL K H a xs) (hb : H b = some (.lst [])) (q : Q (.bl xs.isEmpty) H) : rEqX K (.ref a) (.ref b) H Q := ⟨.inr (.inl ⟨a, b, xs, rfl, rfl, ha, .inl (.inl hb), q⟩)⟩
theorem neL0 {K : PySem.W.Frag} {H : Hp} {Q : VK} {a b : Addr} {xs : List V} (ha : SqL K H a xs) (hb : H b = some (.lst [])) (q : Q (.bl (!xs.isEmpty)) H) : rNeX K (.ref a) (.ref b) H Q := ⟨.inr (.inl ⟨a, b, xs, rfl, rfl, ha, .inl (.inl hb), q⟩)⟩
theorem atI_nat {α : Type} {xs : List α} {i : Nat} {v : α} (e : xs[i]? = some v) : atI xs (i : Int) = some v := by
  have h := (List.getElem?_eq_some_iff.mp e).1
  unfold atI ixN
  rw [if_pos (Int.natCast_nonneg _), if_pos (Int.ofNat_lt.mpr h)]
  simpa using e
theorem ixL {K : PySem.W.Frag} {H : Hp} {Q : VK} {a : Addr} {xs : List V} {i : Nat} {v : V} (h : SqL K H a xs) (e : xs[i]? = some v) (q : Q v H) : rIxA K (.ref a) (.int i) H Q := ⟨.inl ⟨a, xs, i, v, rfl, rfl, h, atI_nat e, q⟩⟩
theorem ixT {K : PySem.W.Frag} {H : Hp} {Q : VK} {a : Addr} {xs : List V} {i : Nat} {v : V} (h : SqT K H a xs) (e : xs[i]? = some v) (q : Q v H) : rIxA K (.ref a) (.int i) H Q := ⟨.inr (.inl ⟨a, xs, i, v, rfl, rfl, h, atI_nat e, q⟩)⟩
theorem ixS {K : PySem.W.Frag} {H : Hp} {Q : VK} {z : Str} {i : Nat} {c : Nat} (h : z.length ≤ sizeLine) (e : (ls z)[i]? = some c) (q : Q (.str (tx [c])) H) : rIxA K (.str z) (.int i) H Q := ⟨.inr (.inr ⟨z, i, c, rfl, rfl, h, atI_nat e, q⟩)⟩
end Z
set_option maxRecDepth 100000
set_option maxHeartbeats 4000000
namespace Z
open PySem PySem.Spec PyProof.Rows L2
section
variable {X : Cx}
def Flat1 (v : V) : Prop := (∃ s : Str, v = .str s) ∨ ∃ b : Bool, v = .bl b
structure rNeSame (K : PySem.W.Frag) (x y : V) (H : Hp) (Q : VK) : Prop where
  h : ∃ a b xs, x = .ref a ∧ y = .ref b ∧ SqL K H a xs ∧ SqL K H b xs ∧ (∀ v ∈ xs, Flat1 v) ∧ Q (.bl false) H
theorem op_neSame {k : Nat} {K : PySem.W.Frag} (hr : Room k X.A) (hk : X.K = K := by rfl) : OpR X (compareOp .NotEq) (rNeSame K) := by
  subst hk
  intro pins s σ H x y u v Q I rx ry ⟨a, b, xs, e1, e2, h1, h2, fl, q⟩
  subst e1; subst e2
  cases rx
  cases ry
  obtain ⟨its, r, p, _⟩ := I.list h1
  obtain ⟨its2, r2, p2, _⟩ := I.list h2
  have hl : s.heap.IsList a its.toArray := by obtain ⟨o, n, e1, e2, e3, e4⟩ := p; exact ⟨_, e1, e2, n, e4⟩
  have hb : s.heap.IsList b its2.toArray := by obtain ⟨o, n, e1, e2, e3, e4⟩ := p2; exact ⟨_, e1, e2, n, e4⟩
  have hsz : its.toArray.size = its2.toArray.size := by rw [List.size_toArray, List.size_toArray, ← r.length, ← r2.length]
  have := SeqAt.RcNeAt.lists (A := X.A) (e := fun _ => true) hl hb hsz hr.units0 (fun j j1 j2 => by
    have hj : j < xs.length := by rw [r.length]; simpa using j1
    have g : xs[j]? = some xs[j] := by simp [hj]
    obtain ⟨u1, z1, w1⟩ := r.get g
    obtain ⟨u2, z2, w2⟩ := r2.get g
    have q1 : its.toArray[j] = u1 := by
      rw [List.getElem_toArray]
      exact Option.some.inj ((List.getElem?_eq_getElem _).symm.trans z1)
    have q2 : its2.toArray[j] = u2 := by
      rw [List.getElem_toArray]
      exact Option.some.inj ((List.getElem?_eq_getElem _).symm.trans z2)
    rw [q1, q2]
    rcases fl _ (List.getElem_mem hj) with ⟨y, e⟩ | ⟨y, e⟩
    · rw [e] at w1 w2
      obtain ⟨t1, rfl⟩ := w1
      obtain ⟨t2, rfl⟩ := w2
      have := SeqAt.EqAt.str_str (A := X.A.in1) (s := s) y t1 y t2
      rwa [beq_self_eq_true] at this
    · rw [e] at w1 w2
      obtain rfl : u1 = Value.bool y := w1
      obtain rfl : u2 = Value.bool y := w2
      have := SeqAt.EqAt.bool_bool (A := X.A.in1) (s := s) y y
      rwa [beq_self_eq_true] at this) X.prog X.w X.xe
  refine this _ ?_
  refine ⟨.bl false, H, I, ?_, q⟩
  show Value.bool _ = Value.bool false
  congr 1
  simp
theorem neSame {K : PySem.W.Frag} {a b : Addr} {xs : List V} {H : Hp} {Q : VK} (h1 : SqL K H a xs) (h2 : SqL K H b xs) (fl : ∀ v ∈ xs, Flat1 v) (q : Q (.bl false) H) : rNeSame K (.ref a) (.ref b) H Q := ⟨a, b, xs, rfl, rfl, h1, h2, fl, q⟩
theorem fold_cps (l : List (Array Nat)) : ∀ acc : Array Nat, (l.foldl (· ++ ·) acc).toList = acc.toList ++ (l.map Array.toList).flatten := by
  induction l with
  | nil => intro acc; simp
  | cons x l ih => intro acc; rw [List.foldl_cons, ih]; simp
theorem rep_sign (n c : Nat) : (List.replicate n (#[c] : Array Nat)).foldl (· ++ ·) #[] = (tx (List.replicate n c)).cps := by
  apply Array.toList_inj.mp
  rw [fold_cps]
  show _ = ls (tx (List.replicate n c))
  rw [ls_tx]
  induction n with
  | zero => rfl
  | succ n ih =>
    rw [List.replicate_succ, List.map_cons, List.flatten_cons]
    rw [List.replicate_succ]
    simp only [List.nil_append] at ih ⊢
    rw [ih]
    rfl
structure rMulSg (x y : V) (H : Hp) (Q : VK) : Prop where
  h : ∃ (c n : Nat), x = .str (tx [c]) ∧ y = .int (n : Nat) ∧ 2 ≤ n ∧ n ≤ sizeLine ∧ Q (.str (tx (List.replicate n c))) H
theorem op_mulSg : OpR X (binaryOp .Mult) rMulSg := by
  intro pins s σ H x y u v Q I rx ry ⟨c, n, e1, e2, h2, hn, q⟩
  subst e1; subst e2
  obtain ⟨t, rfl⟩ := rx
  obtain ⟨t', rfl⟩ := ry
  have sl := PySem.sizeLine_eq
  refine PySem.P.mul_str ?_ ?_ ?_ ?_
  · rw [decide_eq_false (by omega), decide_eq_false (by omega)]
    rfl
  · intro _ _
    rw [tx_len]
    have : (1 : Int) ≤ (2 ^ 63 - 1) / (n : Int) := by
      rw [Int.le_ediv_iff_mul_le (by omega)]
      omega
    show ¬ (((1 : Nat) : Int) > _)
    omega
  · intro _ _
    rw [tx_len]
    show decide (1 * n > sizeLine) = false
    exact decide_eq_false (by omega)
  · rw [if_neg (by omega), if_neg (by
      rw [tx_len]
      simp
      omega)]
    have e : (⟨(List.replicate ((n : Int)).toNat (tx [c]).cps).foldl (· ++ ·) #[]⟩ : Str) = tx (List.replicate n c) := by
      show (⟨(List.replicate n (#[c] : Array Nat)).foldl (· ++ ·) #[]⟩ : Str) = _
      rw [rep_sign]
    rw [e]
    exact ⟨by rw [tx_len, List.length_replicate]; exact hn, .str _, H, I.tok _, ⟨_, rfl⟩, q⟩
def rStrO (C : Addr) (sp : Sp) (E : XK) : List V → Hp → VK → Prop := fun xs H Q => ∃ p dx fs, xs = [.ref p] ∧ H p = some (.ins C dx fs) ∧ sp [.ref p] H (fun v H' => ∃ z, v = .str z ∧ Q (.str z) H') E
theorem call_strO {CX : CXT} {C f : Addr} {fd : FuncData} {ps : List Str} {sp : Sp} {E : XK} {n : Nat} (F : FnOk X.prog X.w X.K X.mg X.base CX n f fd ps sp) (hs : PySem.W.findIn X.K (.ref C) "__str__" = some (some (.ref f))) (hf : PySem.W.isFn X.K (.ref f) = true)
    (hb : Binds X.K fd ps []) (hx : Passes CX X E) (hr : Room (n + 2) X.A) : CallR X (.type "str") (rStrO C sp E) := by
  intro pins s σ H xs us Q I r ⟨p, dx, fs, e, hp, hsp⟩
  subst e
  obtain ⟨u, rfl, rx⟩ := vals1 r
  cases (show u = Value.ref p from rx)
  obtain ⟨mA, J, _⟩ := ins_get I.hok hp
  obtain ⟨od, J, _⟩ := J.look
  have hr2 : Room n X.A.in1.in1 := (hr.in1).in1
  refine PySem.W.kso_call hr2.units0 I.kIn J hs hf ?_
  have e0 : Env0 X.prog X.w X.K X.mg X.base X.A.in1.in1 X.stack s H := by
    have e := I.env0
    exact ⟨e.frames, e.mod, e.bs, e.bsz, e.funs, e.frf, e.hok, e.bare⟩
  have hl := F.len _ _ _ _ hsp
  have r2 : Vals [V.ref p] [Value.ref p] := .cons rfl .nil
  refine wpAny_call (codeAny_mono (F.run X.A.in1.in1 X.stack s H ⟨[.ref p], []⟩ [.ref p] [.ref p] _ E hr2 e0 (by
    have := hb s [.ref p] I.kIn (by simpa using hl)
    simpa using this) r2 hsp) fun r s' hq => ?_)
  cases r with
  | error e => exact hx pins σ H s e s' I hq
  | ok fl =>
    cases fl with
    | ret w =>
      obtain ⟨v, H', I', rz, z, ez, ex⟩ := I.after hq
      subst ez
      obtain ⟨t, rfl⟩ := rz
      exact ⟨.str z, H', I', ⟨t, rfl⟩, ex⟩
    | next => exact False.elim hq
    | brk => exact False.elim hq
    | cont => exact False.elim hq
theorem ans_yes {K : PySem.W.Frag} {x t c : Value} {P : Heap → Prop} (ty : ∀ (M : Model) (h : Heap), K.In h → P h → PySem.W.Looks M h (typeOf x) t) (e : PySem.W.kitOne K t c = some true) : Answers (fun s => K.In s.heap ∧ P s.heap) x c true := by
  intro dep tk prog w A R st hs
  obtain ⟨hp, gg, dd, tt, oo⟩ := st
  obtain ⟨⟨kin, pp⟩, done⟩ := hs
  have look := ty (model prog w) hp kin pp
  unfold PySem.W.kitOne at e
  unfold Builtin.«isinstance.nested»
  refine wpAny_bind (look.at ?_)
  by_cases same : (t == c) = true
  · rw [if_pos same]
    exact wpAny_bind (wpAny_rule (wpAny_pure (done tt)))
  · rw [if_neg same] at e
    rw [if_neg same]
    obtain ⟨q1, q2, q3⟩ := PySem.W.kit_cls (M := model prog w) kin e
    have both : PySem.W.Looks (model prog w) hp (isInstance x c) true := look.andThen q3
    refine wpAny_bind (q1.at ?_)
    rw [if_pos (by decide)]
    k_delta "plainIsInstance"
    refine wpAny_bind (wpAny_bind (q2.at ?_))
    simp only [Bool.not_true, Bool.false_eq_true, if_false]
    refine wpAny_bind (both.at ?_)
    exact wpAny_pure (wpAny_pure (done tt))
def rIsY (K : PySem.W.Frag) (D a : Addr) : List V → Hp → VK → Prop := fun xs H Q => ∃ C : Addr, xs = [.ref a, .ref C] ∧ PySem.W.kitOne K (.ref D) (.ref C) = some true ∧ Q (.bl true) H
theorem call_isY {a D : Addr} {oe : Obj} {pn : List (Addr × Obj)} {cls : Value} {d : Option Addr} (hz : Zc cls d oe) (hcls : cls = .ref D) : CallR (X.suite a ((a, oe) :: pn)) (.builtin "isinstance") (rIsY X.K D a) := by
  intro pins s σ H xs us Q I r ⟨C, e, hk, q⟩
  subst e
  obtain ⟨u1, u2, rfl, r1, r2⟩ := vals2 r
  cases (show u1 = Value.ref a from r1)
  cases (show u2 = Value.ref C from r2)
  obtain ⟨hget, _⟩ := I.pin (a, oe) (List.mem_append.mpr (.inl List.mem_cons_self))
  refine call_isinstance (S := fun _ R s => (X.K.In s.heap ∧ s.heap.get? a = some oe) ∧ ∀ tk, R (.ok (.ret (.bool true))) { s with toks := tk })
    (fun prog w A R s hs => isinstance_outer (ans_yes (K := X.K) (P := fun h => h.get? a = some oe) (fun M h _ hp => ?_) hk 0 _ prog w A R s hs) (fun z => nomatch z)) ⟨⟨I.kIn, hget⟩, fun tk => ⟨.bl true, H, I.kept (t' := tk) fun _ _ z => z, rfl, q⟩⟩
  have e1 : oe.cls = .ref D := by rw [← hcls]; exact hz.1
  rw [← e1]
  exact (PySem.W.Looks.ld (part := none) hp).andThen .now
end
end Z
set_option maxRecDepth 100000
set_option maxHeartbeats 4000000
namespace Z
open PySem PySem.Spec PyProof.Rows L2 PySem.Froz
def SetS (P : Program) (w : World) (h : Heap) (a : Addr) (l : List PySem.Str) : Prop :=
  ∃ D : SD, h.get? a = some (sObj "set" D) ∧ TxOk P w D l ∧ l.Nodup ∧ l.length < scanBound ∧ Ris D.2.2.place.toList ∧ (w.params.followText "set-order" = true ∨ D.2.2.led = true)
section
variable {P : Program} {w : World} {A : Around} {E : Value → Shared → Prop} {s : Shared} {a : Addr} {l : List PySem.Str}
theorem SetS.at {h h' : Heap} (R : SetS P w h a l) (k : ∀ o, h.get? a = some o → h'.get? a = some o) : SetS P w h' a l := by
  obtain ⟨D, e, rest⟩ := R
  exact ⟨D, k _ e, rest⟩
theorem tail_ris {ep : Nat} {es1 : Array (Int × Value)} {t2 : SetTable} {wd : Bool} (r : Ris t2.place.toList) : Ris (tailTx ep es1 t2 wd).2.2.place.toList := by
  unfold tailTx
  by_cases c : (!wd && t2.tooFull) = true
  · rw [if_pos c]
    exact relayAll_ris _ _ _
  · rw [if_neg c]
    exact r
theorem tail_led {ep : Nat} {es1 : Array (Int × Value)} {t2 : SetTable} {wd : Bool} : (tailTx ep es1 t2 wd).2.2.led = t2.led := by
  unfold tailTx
  by_cases c : (!wd && t2.tooFull) = true
  · rw [if_pos c]
    exact relayAll_led _ _ _
  · rw [if_neg c]
theorem add_ris {D : SD} {hh : Int} {v : Value} (r : Ris D.2.2.place.toList) : Ris (addTx hh v D).2.2.place.toList := by
  have r2 := layNew_ris D.2.2 D.1 hh v r
  refine tail_ris ?_
  by_cases c : (layNew D.2.2 D.1 hh v).2.1.plain = true
  · rw [if_pos c]
    exact r2
  · rw [if_neg c]
    exact r2
theorem add_led {D : SD} {hh : Int} {v : Value} : (addTx hh v D).2.2.led = D.2.2.led := by
  have r2 := layNew_led D.2.2 D.1 hh v
  unfold addTx
  rw [tail_led]
  by_cases c : (layNew D.2.2 D.1 hh v).2.1.plain = true
  · rw [if_pos c]
    exact r2
  · rw [if_neg c]
    exact r2
def more (l : List PySem.Str) (k : PySem.Str) : List PySem.Str := if k ∈ l then l else k :: l
theorem addS_hashed {k : PySem.Str} {u : Tok} {Q : Bool → Shared → Prop} (R : SetS P w s.heap a l) (room : l.length + 1 < scanBound)
    (hQ : ∀ h' b, Heap.SameBut a s.heap h' → SetS P w h' a (more l k) → Q b { s with heap := h' }) : wpAny (model P w) A (setAddHashed a (.str k u) (hashStr w k)) Q E s := by
  obtain ⟨D, ho, F, nd, bl, ri, le⟩ := R
  by_cases hk : k ∈ l
  · have same : SetS P w s.heap a (more l k) := by
      unfold more
      rw [if_pos hk]
      exact ⟨D, ho, F, nd, bl, ri, le⟩
    obtain ⟨es, ep, t⟩ := D
    have dat : (sObj "set" (es, ep, t)).data = .set es ep t := rfl
    have fit : t.fits es.size = true := F.fit
    have els : ElemsOf (strKind P w) es.toList := F.el
    have siz : es.size < scanBound := by
      have e : es.size = l.length := F.sz
      omega
    have key : (strKind P w).is k (.str k u) = true := is_str k u
    unfold setAddHashed setAddHashedIn
    refine wpAny_holding (wpAny_bind (wpAny_setState_of ho dat fit ?_))
    dsimp only
    rw [byScan_of rfl siz els]
    simp only [↓reduceIte]
    unfold setAddByScan
    refine wpAny_bind (wpAny_bind (wpAny_rule (wpAny_bind (wpAny_setScan_of (knd := strKind P w) (k := k) key ho dat fit els ?_))))
    cases found : List.findIdx? (fun e => (strKind P w).is k e.2) es.toList with
    | some j =>
      dsimp only
      exact wpAny_pure (wpAny_pure (hQ s.heap _ (Heap.SameBut.refl a s.heap) same))
    | none =>
      obtain ⟨e, he, z⟩ := (F.mem k).mp hk
      have c := List.findIdx?_eq_none_iff.mp found e he
      rw [z] at c
      cases c
  · refine add_x ho F hk room (hQ _ _ (Heap.SameBut.update s.heap a _) ?_)
    have e : more l k = k :: l := if_neg hk
    rw [e]
    refine ⟨_, get_upd _ ho rfl, add_ok u F, List.nodup_cons.mpr ⟨hk, nd⟩, room, add_ris ri, ?_⟩
    rw [add_led]
    exact le
theorem SetS.typ (R : SetS P w s.heap a l) : s.TypeIs (.ref a) "set" := by
  obtain ⟨D, ho, _⟩ := R
  exact ⟨_, ho, rfl⟩
theorem setS_add {k : PySem.Str} {u : Tok} {Q : Value → Shared → Prop} (R : SetS P w s.heap a l) (room : l.length + 1 < scanBound)
    (hQ : ∀ h', Heap.SameBut a s.heap h' → SetS P w h' a (more l k) → Q .none { s with heap := h', toks := s.toks + 1 }) : wpAny (model P w) A (call (.builtin "set.add") [.ref a, .str k u]) Q E s := by
  refine wpAny_call_entry F.slot_set_add R.typ F.entry_set_add ?_ (F.args_set_add_2 _ _)
  unfold Builtin.«set.add» Builtin.Frozenset.oneOther
  simp only [List.isEmpty_nil, bind_assoc]
  unfold Builtin.Frozenset.addrOf setAdd
  refine wpAny_bind (wpAny_pure ?_)
  try dsimp only
  refine wpAny_bind (wpAny_pure ?_)
  try dsimp only
  refine wpAny_bind (wpAny_holding (wpAny_bind ((strKind P w).pyHash (is_str k u) ?_)))
  refine addS_hashed (s := { s with toks := s.toks + 1 }) R room fun h' b sb r => ?_
  show wpAny _ _ (ret Value.none) _ _ _
  exact wpAny_pure ⟨_, rfl, hQ h' sb r⟩
theorem setS_fresh {h : Heap} (w : World) : SetS P w (h.push { cls := .type "set", dict := none, data := .set #[] 0 (.fresh 0 0 (!w.params.followText "set-order")) }) h.objs.size [] :=
  ⟨(#[], 0, .fresh 0 0 (!w.params.followText "set-order")), Heap.get?_push_size _ rfl, TxOk.nil (by rfl), List.nodup_nil, by decide, List.Pairwise.nil, by
    show _ ∨ (!w.params.followText "set-order") = true
    cases w.params.followText "set-order" with
    | false => exact .inr rfl
    | true => exact .inl rfl⟩
end
def SetSO (P : Program) (w : World) (a : Addr) (l : List PySem.Str) : HO := .ext fun h => SetS P w h a l
section
variable {X : Cx} {pins : List (Addr × Obj)} {σ : L2.St} {H : Hp} {s : Shared} {E : Value → Shared → Prop} {D : Addr} {l : List PySem.Str}
theorem setSO_new {P : Program} {w : World} {H : Hp} {h : Heap} {a : Addr} (R : SetS P w h a l) : ObjOk P w H h a (SetSO P w a l) :=
  ⟨R, by obtain ⟨D, e, _⟩ := R; exact ⟨_, e⟩, fun h1 h2 r k => SetS.at r k⟩
theorem setSO_get (I : Inv X pins σ H s) (h : H D = some (SetSO X.prog X.w D l)) : SetS X.prog X.w s.heap D l := (I.hok D _ h).1
theorem addS_ok {k : PySem.Str} {u : Tok} {Q : Value → Shared → Prop} (I : Inv X pins σ H s) (hD : H D = some (SetSO X.prog X.w D l)) (room : l.length + 1 < scanBound)
    (h : ∀ s', Inv X pins σ (upd H D (SetSO X.prog X.w D (more l k))) s' → Q .none s') : wpAny (model X.prog X.w) X.A (call (.builtin "set.add") [.ref D, .str k u]) Q E s := by
  refine setS_add (setSO_get I hD) room fun h' sb new => ?_
  have there : ∃ o, h'.get? D = some o := by
    obtain ⟨d, e, _⟩ := new
    exact ⟨_, e⟩
  exact h _ (I.write (e := D) (t' := s.toks + 1) (by rw [hD]; trivial) (.inl rfl) (fun b o hb hu => (sb.2 b hb).trans hu) there (setSO_new new))
end
end Z
set_option maxRecDepth 100000
set_option maxHeartbeats 4000000
namespace Z
open PySem PySem.Spec PyProof.Rows L2 PySem.Froz
structure Ord (α : Type) [DecidableEq α] where
  lt : α → α → Bool
  irr : ∀ a, lt a a = false
  tr : ∀ a b c, lt a b = true → lt b c = true → lt a c = true
  tot : ∀ a b, lt a b = false → lt b a = false → a = b
section
variable {α : Type} [DecidableEq α]
def Ord.ins (O : Ord α) (k : α) : List α → List α
  | [] => [k]
  | x :: r => if O.lt k x = true then k :: x :: r else if k = x then x :: r else x :: O.ins k r
def Ord.asc (O : Ord α) : List α → List α
  | [] => []
  | x :: r => O.ins x (O.asc r)
def Ord.Up (O : Ord α) (l : List α) : Prop := l.Pairwise fun a b => O.lt a b = true
variable {O : Ord α}
theorem Ord.mem_ins {k y : α} : ∀ {l : List α}, y ∈ O.ins k l ↔ y = k ∨ y ∈ l
  | [] => by simp [Ord.ins]
  | x :: r => by
    unfold Ord.ins
    split
    · simp
    · split
      · rename_i h
        subst h
        simp
      · rw [List.mem_cons, Ord.mem_ins (l := r), List.mem_cons]
        constructor
        · rintro (h | h | h)
          · exact .inr (.inl h)
          · exact .inl h
          · exact .inr (.inr h)
        · rintro (h | h | h)
          · exact .inr (.inl h)
          · exact .inl h
          · exact .inr (.inr h)
theorem Ord.up_ins {k : α} : ∀ {l : List α}, O.Up l → O.Up (O.ins k l)
  | [], _ => List.pairwise_singleton _ _
  | x :: r, h => by
    obtain ⟨h1, h2⟩ := List.pairwise_cons.mp h
    unfold Ord.ins
    split
    · rename_i hk
      refine List.pairwise_cons.mpr ⟨fun y hy => ?_, h⟩
      rcases List.mem_cons.mp hy with rfl | hy
      · exact hk
      · exact O.tr _ _ _ hk (h1 y hy)
    · rename_i hk
      split
      · exact h
      · rename_i hx
        refine List.pairwise_cons.mpr ⟨fun y hy => ?_, Ord.up_ins h2⟩
        rcases Ord.mem_ins.mp hy with rfl | hy
        · cases hc : O.lt x y with
          | true => rfl
          | false => exact absurd (O.tot _ _ (Bool.eq_false_iff.mpr hk) hc) hx
        · exact h1 y hy
theorem Ord.mem_asc {y : α} : ∀ {l : List α}, y ∈ O.asc l ↔ y ∈ l
  | [] => Iff.rfl
  | x :: r => by
    unfold Ord.asc
    rw [Ord.mem_ins, Ord.mem_asc (l := r), List.mem_cons]
theorem Ord.up_asc : ∀ {l : List α}, O.Up (O.asc l)
  | [] => List.Pairwise.nil
  | x :: r => Ord.up_ins Ord.up_asc
theorem Ord.up_eq : ∀ {l m : List α}, O.Up l → O.Up m → (∀ y, y ∈ l ↔ y ∈ m) → l = m
  | [], [], _, _, _ => rfl
  | [], b :: m, _, _, h => absurd ((h b).mpr List.mem_cons_self) (by simp)
  | a :: l, [], _, _, h => absurd ((h a).mp List.mem_cons_self) (by simp)
  | a :: l, b :: m, u, v, h => by
    obtain ⟨u1, u2⟩ := List.pairwise_cons.mp u
    obtain ⟨v1, v2⟩ := List.pairwise_cons.mp v
    have e : a = b := by
      rcases List.mem_cons.mp ((h a).mp List.mem_cons_self) with e | e
      · exact e
      · rcases List.mem_cons.mp ((h b).mpr List.mem_cons_self) with f | f
        · exact f.symm
        · have x1 := v1 a e
          have x2 := u1 b f
          have := O.tr _ _ _ x1 x2
          rw [O.irr] at this
          cases this
    subst e
    rw [Ord.up_eq u2 v2 fun y => ?_]
    constructor
    · intro hy
      rcases List.mem_cons.mp ((h y).mp (List.mem_cons_of_mem _ hy)) with e | e
      · subst e
        have := u1 y hy
        rw [O.irr] at this
        cases this
      · exact e
    · intro hy
      rcases List.mem_cons.mp ((h y).mpr (List.mem_cons_of_mem _ hy)) with e | e
      · subst e
        have := v1 y hy
        rw [O.irr] at this
        cases this
      · exact e
theorem Ord.asc_eq {l m : List α} (h : ∀ y, y ∈ l ↔ y ∈ m) : O.asc l = O.asc m := Ord.up_eq Ord.up_asc Ord.up_asc fun y => by rw [Ord.mem_asc, Ord.mem_asc, h]
theorem Ord.asc_up {l : List α} (h : O.Up l) : O.asc l = l := Ord.up_eq Ord.up_asc h fun y => Ord.mem_asc
theorem Ord.asc_asc {l : List α} : O.asc (O.asc l) = O.asc l := Ord.asc_up Ord.up_asc
theorem Ord.len_ins {k : α} : ∀ {l : List α}, (O.ins k l).length ≤ l.length + 1
  | [] => Nat.le_refl _
  | x :: r => by
    unfold Ord.ins
    split
    · exact Nat.le_refl _
    · split
      · exact Nat.le_succ _
      · exact Nat.succ_le_succ Ord.len_ins
theorem Ord.len_asc : ∀ {l : List α}, (O.asc l).length ≤ l.length
  | [] => Nat.le_refl _
  | x :: r => Nat.le_trans Ord.len_ins (Nat.succ_le_succ Ord.len_asc)
theorem Ord.up_nodup {l : List α} (h : O.Up l) : l.Nodup := h.imp fun {a b} h e => by
  subst e
  rw [O.irr] at h
  cases h
end
def sOrd : Ord PySem.Str where
  lt a b := decide (a.cps.toList < b.cps.toList)
  irr a := decide_eq_false (List.lt_irrefl _)
  tr a b c h1 h2 := decide_eq_true (List.lt_trans (of_decide_eq_true h1) (of_decide_eq_true h2))
  tot a b h1 h2 := str_ext (List.le_antisymm (List.not_lt.mp (of_decide_eq_false h2)) (List.not_lt.mp (of_decide_eq_false h1)))
def iOrd : Ord Int where
  lt a b := decide (a < b)
  irr a := decide_eq_false (Int.lt_irrefl _)
  tr a b c h1 h2 := decide_eq_true (Int.lt_trans (of_decide_eq_true h1) (of_decide_eq_true h2))
  tot a b h1 h2 := by
    have := of_decide_eq_false h1
    have := of_decide_eq_false h2
    omega
abbrev ascS (l : List PySem.Str) : List PySem.Str := sOrd.asc l
abbrev ascI (l : List Int) : List Int := iOrd.asc l
theorem rising_up : ∀ {p : PySem.Str} {l : List PySem.Str}, risingS p l = true → (p :: l).Pairwise fun a b => sOrd.lt b a = false
  | p, [], _ => List.pairwise_singleton _ _
  | p, x :: r, h => by
    have h : (!ltCps x.cps.toList p.cps.toList && risingS x r) = true := h
    rw [Bool.and_eq_true] at h
    obtain ⟨h1, h2⟩ := h
    have ih := rising_up h2
    have h1' : sOrd.lt x p = false := by
      rw [ltCps_eq] at h1
      show decide (x.cps.toList < p.cps.toList) = false
      simpa using h1
    refine List.pairwise_cons.mpr ⟨fun y hy => ?_, ih⟩
    rcases List.mem_cons.mp hy with rfl | hy
    · exact h1'
    · have h3 := (List.pairwise_cons.mp ih).1 y hy
      cases hc : sOrd.lt y p with
      | false => rfl
      | true =>
        exfalso
        by_cases e : sOrd.lt p x = true
        · have := sOrd.tr _ _ _ hc e
          rw [this] at h3
          cases h3
        · have e2 := sOrd.tot _ _ (Bool.eq_false_iff.mpr e) h1'
          rw [← e2, hc] at h3
          cases h3
theorem sorted_asc {l m : List PySem.Str} (h : sortedS l = true) (nd : l.Nodup) (hm : ∀ y, y ∈ l ↔ y ∈ m) : l = ascS m := by
  refine Ord.up_eq ?_ Ord.up_asc fun y => by rw [hm, Ord.mem_asc]
  cases l with
  | nil => exact List.Pairwise.nil
  | cons p r =>
    have h := rising_up (show risingS p r = true from h)
    refine (h.and nd).imp fun {a b} ⟨h1, h2⟩ => ?_
    cases hc : sOrd.lt a b with
    | true => rfl
    | false => exact absurd (sOrd.tot _ _ hc h1) h2
theorem ints_asc {l m : List Int} (h : l.Pairwise (· < ·)) (hm : ∀ y, y ∈ l ↔ y ∈ m) : l = ascI m :=
  Ord.up_eq (O := iOrd) (h.imp fun {a b} h => (decide_eq_true h : decide (a < b) = true)) Ord.up_asc fun y => by rw [hm, Ord.mem_asc]
def mor {κ : Type} [DecidableEq κ] (l : List κ) (k : κ) : List κ := if k ∈ l then l else k :: l
theorem mem_mor {κ : Type} [DecidableEq κ] {l : List κ} {k y : κ} : y ∈ mor l k ↔ y ∈ l ∨ y = k := by
  unfold mor
  split
  · exact ⟨.inl, fun h => h.elim id fun e => by rw [e]; assumption⟩
  · rw [List.mem_cons]
    exact Or.comm
theorem len_mor {κ : Type} [DecidableEq κ] {l : List κ} {k : κ} : (mor l k).length ≤ l.length + 1 := by
  unfold mor
  split
  · exact Nat.le_succ _
  · exact Nat.le_refl _
theorem nodup_mor {κ : Type} [DecidableEq κ] {l : List κ} {k : κ} (h : l.Nodup) : (mor l k).Nodup := by
  unfold mor
  split
  · exact h
  · exact List.nodup_cons.mpr ⟨by assumption, h⟩
def mors {κ : Type} [DecidableEq κ] (l ks : List κ) : List κ := ks.foldl mor l
theorem mem_mors {κ : Type} [DecidableEq κ] : ∀ {ks l : List κ} {y : κ}, y ∈ mors l ks ↔ y ∈ l ∨ y ∈ ks
  | [], l, y => by simp [mors]
  | k :: ks, l, y => by
    show y ∈ mors (mor l k) ks ↔ _
    rw [mem_mors, mem_mor, List.mem_cons, or_assoc]
theorem len_mors {κ : Type} [DecidableEq κ] : ∀ {ks l : List κ}, (mors l ks).length ≤ l.length + ks.length
  | [], l => Nat.le_refl _
  | k :: ks, l => by
    show (mors (mor l k) ks).length ≤ l.length + (ks.length + 1)
    have := len_mors (ks := ks) (l := mor l k)
    have := len_mor (l := l) (k := k)
    omega
theorem nodup_mors {κ : Type} [DecidableEq κ] : ∀ {ks l : List κ}, l.Nodup → (mors l ks).Nodup
  | [], l, h => h
  | k :: ks, l, h => nodup_mors (ks := ks) (l := mor l k) (nodup_mor h)
abbrev setNew (w : World) : Obj := { cls := .type "set", dict := none, data := .set #[] 0 (.fresh 0 0 (!w.params.followText "set-order")) }
structure SK (P : Program) (w : World) (κ : Type) [DecidableEq κ] where
  R : Heap → Addr → List κ → Prop
  mkv : κ → Tok → Value
  vv : κ → V
  rel : ∀ {k : κ} {y : Value}, RelV (vv k) y → ∃ u, y = mkv k u
  keep : ∀ {h h' : Heap} {a : Addr} {l : List κ}, R h a l → (∀ o, h.get? a = some o → h'.get? a = some o) → R h' a l
  len : ∀ {h : Heap} {a : Addr} {l : List κ}, R h a l → ∃ o es ep t, h.get? a = some o ∧ o.ExactSet ∧ o.data = .set es ep t ∧ t.fits es.size = true ∧ es.size = l.length ∧ es.size < scanBound
  fresh : ∀ {h : Heap} {a : Addr}, h.get? a = some (setNew w) → R h a []
  add : ∀ {A : Around} {E : Value → Shared → Prop} {s : Shared} {a : Addr} {l : List κ} {k : κ} {u : Tok} {Q : Bool → Shared → Prop}, R s.heap a l → l.length + 1 < scanBound →
    (∀ h' b, Heap.SameBut a s.heap h' → R h' a (mor l k) → Q b { s with heap := h', toks := s.toks + 1 }) → wpAny (model P w) A (setAdd a (mkv k u)) Q E s
theorem led_new (w : World) : w.params.followText "set-order" = true ∨ (SetTable.fresh 0 0 (!w.params.followText "set-order")).led = true := by
  show _ ∨ (!w.params.followText "set-order") = true
  cases w.params.followText "set-order" with
  | false => exact .inr rfl
  | true => exact .inl rfl
def strSK (P : Program) (w : World) : SK P w PySem.Str where
  R := SetS P w
  mkv := Value.str
  vv := V.str
  rel h := h
  keep h k := h.at k
  len h := by
    obtain ⟨D, e, F, nd, bl, _⟩ := h
    exact ⟨_, D.1, D.2.1, D.2.2, e, ⟨rfl, rfl, rfl⟩, rfl, F.fit, F.sz, by rw [F.sz]; exact bl⟩
  fresh h := ⟨(#[], 0, .fresh 0 0 (!w.params.followText "set-order")), h, TxOk.nil (by rfl), List.nodup_nil, by decide, List.Pairwise.nil, led_new w⟩
  add {A E s a l k u Q} R room hQ := by
    unfold setAdd
    refine wpAny_holding (wpAny_bind ((PySem.strKind P w).pyHash (is_str k u) ?_))
    exact addS_hashed (s := { s with toks := s.toks + 1 }) R room fun h' b sb r => hQ h' b sb r
def intSK (P : Program) (w : World) : SK P w Int where
  R h a l := l.Nodup ∧ SetR w h a (fun j => decide (j ∈ l)) l.length
  mkv := Value.int
  vv := V.int
  rel h := h
  keep h k := ⟨h.1, h.2.at k⟩
  len h := by
    obtain ⟨_, o, es, ep, t, ho, hex, hd, g, nd, hm, hb, hf, hn, _⟩ := h
    exact ⟨o, es, ep, t, ho, hex, hd, hf, hn, hb⟩
  fresh h := ⟨List.nodup_nil, _, #[], 0, _, h, ⟨rfl, rfl, rfl⟩, rfl, (fun e he => by simp at he), (by simp), (fun k => by simp), (by decide), (by rfl), rfl, List.Pairwise.nil, led_new w⟩
  add {A E s a l k u Q} R room hQ := by
    unfold setAdd
    refine wpAny_holding (wpAny_bind ((PySem.intKind P w).pyHash (intKind_is P w k u) ?_))
    refine setR_add_hashed (s := { s with toks := s.toks + 1 }) R.2 room fun h' sb r => hQ h' _ sb ⟨nodup_mor R.1, ?_⟩
    have e : (if decide (k ∈ l) = true then l.length else l.length + 1) = (mor l k).length := by
      unfold mor
      by_cases h : k ∈ l
      · rw [if_pos (decide_eq_true h), if_pos h]
      · rw [if_neg (by rw [decide_eq_false h]; exact Bool.false_ne_true), if_neg h]
        rfl
    rw [e] at r
    refine r.congr fun j => ?_
    rw [← Bool.decide_or]
    exact decide_eq_decide.mpr mem_mor
section
variable {P : Program} {w : World} {κ : Type} [DecidableEq κ] {N : SK P w κ} {A : Around} {E : Value → Shared → Prop} {s : Shared} {a : Addr} {l : List κ}
theorem SK.typ (h : N.R s.heap a l) : s.TypeIs (.ref a) "set" := by
  obtain ⟨o, es, ep, t, ho, hex, _⟩ := N.len h
  exact ⟨o, ho, hex.1⟩
theorem SK.addC {k : κ} {u : Tok} {Q : Value → Shared → Prop} (h : N.R s.heap a l) (room : l.length + 1 < scanBound)
    (hQ : ∀ h', Heap.SameBut a s.heap h' → N.R h' a (mor l k) → Q .none { s with heap := h', toks := s.toks + 1 }) : wpAny (model P w) A (call (.builtin "set.add") [.ref a, N.mkv k u]) Q E s := by
  refine wpAny_call_entry F.slot_set_add (SK.typ h) F.entry_set_add ?_ (F.args_set_add_2 _ _)
  unfold Builtin.«set.add» Builtin.Frozenset.oneOther
  simp only [List.isEmpty_nil, bind_assoc]
  unfold Builtin.Frozenset.addrOf
  refine wpAny_bind (wpAny_pure ?_)
  try dsimp only
  refine wpAny_bind (wpAny_pure ?_)
  try dsimp only
  refine wpAny_bind (N.add h room fun h' b sb r => ?_)
  show wpAny _ _ (ret Value.none) _ _ _
  exact wpAny_pure ⟨_, rfl, hQ h' sb r⟩
end
def SetH {P : Program} {w : World} {κ : Type} [DecidableEq κ] (N : SK P w κ) (a : Addr) (l : List κ) : HO := .ext fun h => N.R h a l
section
variable {X : Cx} {pins : List (Addr × Obj)} {σ : L2.St} {H : Hp} {s : Shared} {E : Value → Shared → Prop} {κ : Type} [DecidableEq κ] {D : Addr} {l : List κ}
theorem setH_new {P : Program} {w : World} {N : SK P w κ} {H : Hp} {h : Heap} {a : Addr} (R : N.R h a l) : ObjOk P w H h a (SetH N a l) :=
  ⟨R, by obtain ⟨o, _, _, _, e, _⟩ := N.len R; exact ⟨_, e⟩, fun h1 h2 r k => N.keep r k⟩
theorem setH_get {N : SK X.prog X.w κ} (I : Inv X pins σ H s) (h : H D = some (SetH N D l)) : N.R s.heap D l := (I.hok D _ h).1
theorem addH_ok {P : Program} {w : World} {N : SK P w κ} (hp : X.prog = P) (hw : X.w = w) {k : κ} {u : Tok} {Q : Value → Shared → Prop} (I : Inv X pins σ H s) (hD : H D = some (SetH N D l)) (room : l.length + 1 < scanBound)
    (h : ∀ s', Inv X pins σ (upd H D (SetH N D (mor l k))) s' → Q .none s') : wpAny (model X.prog X.w) X.A (call (.builtin "set.add") [.ref D, N.mkv k u]) Q E s := by
  subst hp
  subst hw
  refine SK.addC (setH_get I hD) room fun h' sb new => ?_
  have there : ∃ o, h'.get? D = some o := by
    obtain ⟨o, _, _, _, e, _⟩ := N.len new
    exact ⟨_, e⟩
  exact h _ (I.write (e := D) (t' := s.toks + 1) (by rw [hD]; trivial) (.inl rfl) (fun b o hb hu => (sb.2 b hb).trans hu) there (setH_new new))
end
end Z
set_option maxRecDepth 100000
set_option maxHeartbeats 4000000
namespace Z
open PySem PySem.Spec PyProof.Rows L2 PySem.Froz
section
variable {X : Cx} {κ : Type} [DecidableEq κ]
def tScH {P : Program} {w : World} (N : SK P w κ) (wi : TI) (g : TG) (tt : TT) (te : TE) (vs : List Nat) : TE := fun σ H Q => wi σ H fun J H1 => ∀ D, H1 D = none → ∃ W : Nat → Nat → Hp → Prop, (∃ m, W 0 m (upd H1 D (SetH N D []))) ∧ ∀ i m H, W i m H →
  (J.stop i H ∧ Q (.ref D) H) ∨ (J.go i H ∧ ∃ Nx : Hp → Prop, (∀ H', Nx H' → ∃ m', m' < m ∧ W (i + 1) m' H') ∧ ∀ x H', J.yld i H x H' → g x (wipe σ vs) H' fun σ2 H2 => wipe σ2 vs = wipe σ vs ∧ tt σ2 H2 fun b H3 =>
    if b = true then te σ2 H3 fun y H4 => ∃ (k : κ) (l : List κ), y = N.vv k ∧ H4 D = some (SetH N D l) ∧ l.length + 1 < scanBound ∧ Nx (upd H4 D (SetH N D (mor l k))) else Nx H3)
theorem sch_core {P : Program} {w : World} (N : SK P w κ) (hP : X.prog = P) (hw : X.w = w) {pins : List (Addr × Obj)} {s : Shared} {σ : L2.St} {H : Hp} {Q : VK} {elt tg iter : Expr} {ifs : List Expr} {scope : Scope} {own : List (PySem.Str × Nat)} {pos pos' : Pos} {wi : TI} {g : TG} {tt : TT} {te : TE} {use : Option (Value → Sem Unit)} {Qf : Value → Shared → Prop}
    (calm : X.calm = true) (nd : X.N.Nodup) (I : Inv X pins σ H s) (di : PI X tg iter wi) (ok : BlkOk X.N X.env.scope scope own)
    (dg : ∀ (s : Shared) (H : Hp) (C : Addr) (cl : List (PySem.Str × Addr)) (fp : List Addr), PG (X.blk s H scope (compEnvC scope cl C X.env) fp) tg g) (dt : ∀ (s : Shared) (H : Hp) (C : Addr) (cl : List (PySem.Str × Addr)) (fp : List Addr), PTs (X.blk s H scope (compEnvC scope cl C X.env) fp) ifs tt)
    (de : ∀ (s : Shared) (H : Hp) (C : Addr) (cl : List (PySem.Str × Addr)) (fp : List Addr), PE (X.blk s H scope (compEnvC scope cl C X.env) fp) elt te) (un : ∀ x, foldedSetIterable iter X.env x = pure x)
    (h : tScH N wi g tt te (own.map (·.2)) σ H Q)
    (hR : ∀ D C s' m H', Inv X pins σ H' s' → Q (.ref D) H' → s'.heap.Ns C m → FpOk X pins H' C → compPost (model X.prog X.w) X.A X.xe use Qf (.ref D) C (.ok .next) s') :
    wpAny (model X.prog X.w) X.A (comprehension (.SetComp elt [⟨tg, iter, ifs, 0⟩] scope pos) scope X.env pos' (newSet (.type "set")) false (eval iter X.env) use) Qf X.xe s := by
  have free : ∀ y ∈ scope.names, y.2 = .free → ∃ c, X.env.cells.lookup y.1 = some c := fun y hy e =>
    (ok.free y hy e).elim (fun k => I.ok.has _ (.inl k)) fun k => I.ok.has _ (.inr k)
  refine wpAny_comprehension_free (use := use) rfl un (closure_ok free) ok.kind (fun y hy e => by rw [ok.uniq y hy, e])
    (thn (di.run pins s σ H _ I h) fun xv sa ha => thn ha fun itv sb hb => ?_)
  obtain ⟨it, fp, tn, J, Hb, e, Ib, T, stb, fb, q⟩ := hb
  subst e
  refine PpSet.newSet_ok (newEnv_comp ?_)
  generalize eD : sb.heap.objs.size = D
  have nD : Hb D = none := Ib.hok.fresh (Nat.le_of_eq eD)
  obtain ⟨W, ⟨m0, w0⟩, turn⟩ := q D nD
  generalize ec : ({ sb with heap := sb.heap.push (setNew X.w) } : Shared) = sc
  have hc3 : sc.heap = sb.heap.push (setNew X.w) := by rw [← ec]
  have Ic : Inv X pins σ (upd Hb D (SetH N D [])) sc := by
    rw [← ec]
    refine Ib.laid (t' := sb.toks) (fun b o e => Heap.get?_push_of_some _ e) (Nat.le_of_eq eD) ?_
    subst hw
    subst hP
    rw [← eD]
    exact setH_new (N.fresh (Heap.get?_push_size _ rfl))
  have small : ∀ b ∈ fp, b < sb.heap.objs.size := fun b hb => by
    obtain ⟨o, e, _⟩ := T.obj _ _ stb b hb
    exact Heap.lt_size e
  have fc : ∀ b ∈ fp, FpOk X pins (upd Hb D (SetH N D [])) b ∧ b < sc.heap.objs.size := fun b hb => by
    have lt := small b hb
    refine ⟨⟨?_, (fb b hb).2⟩, by rw [hc3, Heap.size_push]; exact Nat.lt_succ_of_lt lt⟩
    rw [upd_ne (by rw [← eD]; exact Nat.ne_of_lt lt)]
    exact (fb b hb).1
  have stc : tn 0 sc.heap := T.keep _ _ _ stb fun b _ o e => by rw [hc3]; exact Heap.get?_push_of_some _ e
  have Id := block_start Ic ok nd fc
  have pg := dg sc (upd Hb D (SetH N D [])) sc.heap.objs.size (cellsFrom (sc.heap.objs.size + 1) scope.names (cloFrom X.env.cells scope.names [])) fp
  have pt := dt sc (upd Hb D (SetH N D [])) sc.heap.objs.size (cellsFrom (sc.heap.objs.size + 1) scope.names (cloFrom X.env.cells scope.names [])) fp
  have pe := de sc (upd Hb D (SetH N D [])) sc.heap.objs.size (cellsFrom (sc.heap.objs.size + 1) scope.names (cloFrom X.env.cells scope.names [])) fp
  show codeAny _ _ (.compStart (.SetComp elt [⟨tg, iter, ifs, 0⟩] scope pos) 0 (.ref it) (.ref D) (compEnvC scope (cellsFrom (sc.heap.objs.size + 1) scope.names (cloFrom X.env.cells scope.names [])) sc.heap.objs.size X.env)) (compPost (model X.prog X.w) X.A X.xe use Qf (.ref D) sc.heap.objs.size) { sc with heap := pushCells (sc.heap.push { cls := .type "dict", data := .dict #[] }) scope.names }
  have nfp : ∀ b ∈ fp, (upd Hb D (SetH N D [])) b = none := fun b hb => (fc b hb).1.1
  generalize ece : compEnvC scope (cellsFrom (sc.heap.objs.size + 1) scope.names (cloFrom X.env.cells scope.names [])) sc.heap.objs.size X.env = ce at Id pg pt pe ⊢
  have locs : ce.locals = sc.heap.objs.size := by subst ece; rfl
  generalize eHc : upd Hb D (SetH N D []) = Hc at Ic Id pg pt pe w0 nfp fc
  generalize ed : ({ sc with heap := pushCells (sc.heap.push { cls := .type "dict", data := .dict #[] }) scope.names } : Shared) = sd at Id ⊢
  have std : tn 0 sd.heap := T.keep _ _ _ stc fun b _ o e => by rw [← ed]; exact pushCells_keeps _ _ _ _ (Heap.get?_push_of_some _ e)
  have stat : ∀ {σ' : L2.St} {H' : Hp} {s' : Shared}, Inv (X.blk sc Hc scope ce fp) [] σ' H' s' → (∀ b ∈ fp, H' b = none) → ∀ b ∈ fp, FpOk (X.blk sc Hc scope ce fp) [] H' b := fun {σ' H' s'} I' hn b hb =>
    ⟨hn b hb, (I'.ok.exf b hb).1, I'.ok.exfs b hb, .inl hb, fun x c e => (I'.ok.exf b hb).2 x c e, fun p hp => absurd (show p ∈ ([] : List (Addr × Obj)) ++ [] from hp) (by simp)⟩
  refine PpSet.codeAny_compStart_set ?lp (T.self X.A 0 _ _ _ std ?lp)
  case lp =>
    refine PpSet.compLoopS_any (fun n s' => ∃ i H', Inv (X.blk sc Hc scope ce fp) [] (wipe σ (own.map (·.2))) H' s' ∧ tn i s'.heap ∧ (∀ b ∈ fp, H' b = none) ∧ W i n H') ?_ m0 ⟨0, Hc, Id, std, nfp, w0⟩
    rintro n se ⟨i, He, Ie, ste, ne, we⟩
    rcases turn i n He we with ⟨stop, qq⟩ | ⟨go, Nx, hNx, step⟩
    · refine thnF (T.done (X.blk sc Hc scope ce fp) rfl rfl rfl calm i [] se _ He (fun _ _ => False) Ie (stat Ie ne) ste stop) fun r sf ⟨hr, If⟩ => ?_
      subst hr
      have Ig : Inv X pins σ He sf := Ic.call' (ch := fp) If.os If.base If.hok If.bare fun b hb => ⟨(fc b hb).1.2.2.2.1, (fc b hb).1.2.1, (fc b hb).1.2.2.2.2.1, (fc b hb).1.2.2.2.2.2⟩
      have nC : He sc.heap.objs.size = none := by
        have z : He ce.locals = none := If.free
        rwa [locs] at z
      obtain ⟨m, hn, _⟩ := If.loc
      have hn : sf.heap.Ns ce.locals m := hn
      rw [locs] at hn
      exact hR D sc.heap.objs.size sf m He Ig qq hn (Ic.fpOk (Nat.le_refl _) nC)
    · refine thnF (T.item (X.blk sc Hc scope ce fp) rfl rfl rfl calm i [] se _ He (fun _ _ => False) Ie (stat Ie ne) ste go) fun r sf ⟨u, hr, hf⟩ => ?_
      subst hr
      refine thnF hf fun _ sg ⟨x, Hg, Ig, rg, yg, stg, ng⟩ => ?_
      have Ig' := Ig.pinned (stat Ig ng) (T.obj _ _ stg)
      refine thnF (pg.run _ sg _ Hg x u _ Ig' rg (step x Hg yg)) fun _ sh ⟨σh, Hh, Ih, hwh, qh⟩ => ?_
      refine thnF (pt.run _ sh σh Hh _ Ih qh) fun b si ⟨Hi, Ii, qi⟩ => ?_
      have fin : ∀ {s' : Shared} {H' : Hp}, Inv (X.blk sc Hc scope ce fp) ([] ++ pinsAt fp sg.heap) σh H' s' → Nx H' → ∃ m, m < n ∧ ∃ i H', Inv (X.blk sc Hc scope ce fp) [] (wipe σ (own.map (·.2))) H' s' ∧ tn i s'.heap ∧ (∀ b ∈ fp, H' b = none) ∧ W i m H' := fun {s' H'} I' nx => by
        obtain ⟨m', hm, w'⟩ := hNx H' nx
        have pinned : ∀ b ∈ fp, ∀ o, sg.heap.get? b = some o → s'.heap.get? b = some o ∧ H' b = none := fun b hb o e =>
          let z := I'.pin (b, o) (List.mem_append_right _ (List.mem_append_right _ (mem_pinsAt hb e)))
          ⟨z.1, z.2.1⟩
        have hl : (wipe σ (own.map (·.2))).length = σh.length := by rw [← hwh, wipe_length]
        refine ⟨m', hm, i + 1, H', (I'.unpinned (pins := [])).weak hl (fun j v e => ?_), T.keep _ _ _ stg fun b hb o e => (pinned b hb o e).1, fun b hb => ?_, w'⟩
        · rw [← hwh] at e
          exact (wipe_some e).1
        · obtain ⟨o, e, _⟩ := T.obj _ _ stg b hb
          exact (pinned b hb o e).2
      cases b with
      | false =>
        simp only [Bool.false_eq_true, if_false] at qi ⊢
        exact fin Ii qi
      | true =>
        simp only [if_true] at qi ⊢
        refine thnF (pe.run _ si σh Hi _ Ii qi) fun z sj ⟨yv, Hj, Ij, rj, k, l, ey, hDj, room, nx⟩ => ?_
        subst ey
        obtain ⟨u', rfl⟩ := N.rel rj
        exact addH_ok (X := X.blk sc Hc scope ce fp) hP hw Ij hDj room fun sk Ik => fin Ik nx
theorem pe_scH {P : Program} {w : World} (N : SK P w κ) {elt tg iter : Expr} {ifs : List Expr} {scope : Scope} {own : List (PySem.Str × Nat)} {pos : Pos} {wi : TI} {g : TG} {tt : TT} {te : TE} (calm : X.calm = true) (nd : X.N.Nodup) (di : PI X tg iter wi) (ok : BlkOk X.N X.env.scope scope own)
    (dg : ∀ (s : Shared) (H : Hp) (C : Addr) (cl : List (PySem.Str × Addr)) (fp : List Addr), PG (X.blk s H scope (compEnvC scope cl C X.env) fp) tg g) (dt : ∀ (s : Shared) (H : Hp) (C : Addr) (cl : List (PySem.Str × Addr)) (fp : List Addr), PTs (X.blk s H scope (compEnvC scope cl C X.env) fp) ifs tt)
    (de : ∀ (s : Shared) (H : Hp) (C : Addr) (cl : List (PySem.Str × Addr)) (fp : List Addr), PE (X.blk s H scope (compEnvC scope cl C X.env) fp) elt te) (hP : X.prog = P := by rfl) (hw : X.w = w := by rfl) (un : ∀ x, foldedSetIterable iter X.env x = pure x := by intro _; rfl) :
    PE X (.SetComp elt [⟨tg, iter, ifs, 0⟩] scope pos) (tScH N wi g tt te (own.map (·.2))) := by
  refine ⟨fun pins s σ H Q I h => ?_⟩
  rw [PpSet.eval_SetComp]
  refine sch_core N hP hw calm nd I di ok dg dt de un h fun D C s' m H' I' q hn f => ⟨m, hn, fun h'' sb => ?_⟩
  obtain ⟨f0, f1, f2, f3, f4, f5⟩ := f
  exact ⟨.ref D, H', I'.turned (t' := s'.toks) (fun b o hb e => (sb.2 b hb).trans e) f0 f1 f3 f4 f5, rfl, q⟩
theorem sch_it {P : Program} {w : World} {N : SK P w κ} {J : It} {n : Nat} {G : Hp → Prop} {Y : Nat → Hp → V → Hp → Prop} (wk : Walk J n G Y) {g : TG} {tt : TT} {te : TE} {vs : List Nat} {σ : L2.St} {H1 : Hp} {D : Addr} {Qd : Hp → Prop} (Pv : Nat → Hp → Prop) (h0 : Pv 0 (upd H1 D (SetH N D []))) (hG : ∀ i H, i ≤ n → Pv i H → G H)
    (hs : ∀ i x H H', i < n → Pv i H → Y i H x H' → g x (wipe σ vs) H' fun σ2 H2 => wipe σ2 vs = wipe σ vs ∧ tt σ2 H2 fun b H3 =>
      if b = true then te σ2 H3 fun y H4 => ∃ (k : κ) (l : List κ), y = N.vv k ∧ H4 D = some (SetH N D l) ∧ l.length + 1 < scanBound ∧ Pv (i + 1) (upd H4 D (SetH N D (mor l k))) else Pv (i + 1) H3) (hd : ∀ H, Pv n H → Qd H) :
    ∃ W : Nat → Nat → Hp → Prop, (∃ m, W 0 m (upd H1 D (SetH N D []))) ∧ ∀ i m H, W i m H →
      (J.stop i H ∧ Qd H) ∨ (J.go i H ∧ ∃ Nx : Hp → Prop, (∀ H', Nx H' → ∃ m', m' < m ∧ W (i + 1) m' H') ∧ ∀ x H', J.yld i H x H' → g x (wipe σ vs) H' fun σ2 H2 => wipe σ2 vs = wipe σ vs ∧ tt σ2 H2 fun b H3 =>
        if b = true then te σ2 H3 fun y H4 => ∃ (k : κ) (l : List κ), y = N.vv k ∧ H4 D = some (SetH N D l) ∧ l.length + 1 < scanBound ∧ Nx (upd H4 D (SetH N D (mor l k))) else Nx H3) := by
  refine ⟨fun i m H => m = n - i ∧ i ≤ n ∧ Pv i H, ⟨n, by simp, Nat.zero_le _, h0⟩, ?_⟩
  rintro i m H ⟨rfl, hi, p⟩
  have q := hG i H hi p
  rcases Nat.lt_or_ge i n with lt | ge
  · exact .inr ⟨wk.goes i H lt q, Pv (i + 1), fun H' p' => ⟨n - (i + 1), by omega, rfl, lt, p'⟩, fun x H' y => hs i x H H' lt p (wk.yields i H x H' lt q y)⟩
  · obtain rfl : i = n := by omega
    exact .inl ⟨wk.stops H q, hd H p⟩
end
end Z
set_option maxRecDepth 100000
set_option maxHeartbeats 4000000
namespace Z
open PySem PySem.Spec PyProof.Rows L2 PySem.Froz
section
variable {P : Program} {w : World} {κ : Type} [DecidableEq κ] {N : SK P w κ}
section
variable {A : Around} {I : Addr} {fp wr : List Addr} {G : Array GenState → Array GenState → Prop} {n : Nat} {Pv : Nat → Value → Prop} {St : Nat → Shared → Prop} {R : Result → Shared → Prop}
theorem upd_loop (W : WalksS P w A.in1 I fp wr G n Pv St) (D : Addr) (nf : D ∉ fp) (ks : List κ) (hn : ks.length = n) (room : ks.length + 1 < scanBound) (val : ∀ i v, Pv i v → ∃ k u, ks[i]? = some k ∧ v = N.mkv k u) :
    ∀ (m i : Nat) (s : Shared), n - i = m → i ≤ n → St i s → N.R s.heap D (mors [] (ks.take i)) →
      (∀ s', Moved (D :: wr) G s s' → N.R s'.heap D (mors [] ks) → R (.ok (.ret .none)) s') → codeAny (model P w) A (.builtin "set.update.loop" ⟨[.ref D, .ref I], []⟩) R s
  | 0, i, s, hm, hi, st, hS, k => by
    obtain rfl : i = n := by omega
    refine codeAny_builtin PyProof.Rows.F.entry_set_update_loop ?_
    rw [Around.under_plainId PyProof.Rows.F.plain_set_update_loop _]
    show wpAny _ A.in1 (pyNext (.ref I) >>= _) _ _ s
    refine wpAny_bind (W.done s _ _ st fun s' mv => ?_)
    show wpAny _ A.in1 (ret Value.none) _ _ s'
    rw [← hn, List.take_length] at hS
    exact wpAny_pure (k s' (mv.mono fun b hb => List.mem_cons_of_mem _ hb) (N.keep hS fun o e => mv.heap D _ (fun z => nf (W.sub _ z)) e))
  | m + 1, i, s, hm, hi, st, hS, k => by
    have lt : i < n := by omega
    refine codeAny_builtin PyProof.Rows.F.entry_set_update_loop ?_
    rw [Around.under_plainId PyProof.Rows.F.plain_set_update_loop _]
    show wpAny _ A.in1 (pyNext (.ref I) >>= _) _ _ s
    refine wpAny_bind (W.item i s _ _ lt st fun v s' hP st' mv => ?_)
    obtain ⟨x, u, hx, rfl⟩ := val i v hP
    have hS' : N.R s'.heap D (mors [] (ks.take i)) := N.keep hS fun o e => mv.heap D _ (fun z => nf (W.sub _ z)) e
    show wpAny _ A.in1 (holding [N.mkv x u] (setAdd D (N.mkv x u)) >>= _) _ _ s'
    have few : (mors [] (ks.take i)).length + 1 < scanBound := by
      have h1 := len_mors (l := []) (ks := ks.take i)
      have h2 : (ks.take i).length ≤ ks.length := by rw [List.length_take]; exact Nat.min_le_right ..
      simp only [List.length_nil] at h1
      omega
    refine wpAny_bind (wpAny_holding (N.add hS' few fun h' b sb hN => ?_))
    have step : mor (mors [] (ks.take i)) x = mors [] (ks.take (i + 1)) := by
      unfold mors
      rw [List.take_succ, hx]
      show _ = List.foldl mor [] (ks.take i ++ [x])
      rw [List.foldl_append]
      rfl
    rw [step] at hN
    refine wpAny_pure ⟨plainId_quiet PyProof.Rows.F.plain_set_update_loop _, upd_loop W D nf ks hn room val m (i + 1) _ (by omega) lt (W.frame _ s' _ _ st' (Nat.le_succ _) fun c hc o e => ?_) hN fun s2 mv2 hN2 => ?_⟩
    · rw [sb.2 c fun z => nf (by rw [← z]; exact hc)]
      exact e
    · refine k s2 (Moved.trans W.gtrans ((mv.mono fun b hb => List.mem_cons_of_mem _ hb).then_heap (Nat.le_succ _) fun c o hc e => ?_) mv2) hN2
      rw [sb.2 c fun z => hc (by rw [z]; exact List.mem_cons_self)]
      exact e
end
section
variable {A : Around} {E : Value → Shared → Prop} {s : Shared}
set_option maxHeartbeats 8000000 in
theorem set_from {l : Addr} {items : Array Value} {ks : List κ} {Q : Value → Shared → Prop} (calm : A.handled = none) (hl : s.heap.IsList l items ∨ s.heap.IsTuple l items) (hn : ks.length = items.size)
    (val : ∀ (i : Nat) (v : Value), items[i]? = some v → ∃ k u, ks[i]? = some k ∧ v = N.mkv k u) (room : ks.length + 1 < scanBound)
    (k : ∀ (h' : Heap) (tk : Nat), N.R h' s.heap.objs.size (mors [] ks) → (∀ b o, s.heap.get? b = some o → h'.get? b = some o) → Q (.ref s.heap.objs.size) { s with heap := h', toks := tk }) :
    wpAny (model P w) A (call (.type "set") [.ref l]) Q E s := by
  obtain ⟨cc, tl, mro⟩ := PySem.F.called_set.mro
  have made := PySem.F.called_set.made
  have subs := PySem.F.called_set.sub
  refine wpAny_call (codeAny_of_tree ?_)
  show wpAny _ _ (callAny (.type "set") _) _ _ _
  refine wpAny_pure ⟨Code.quiet_builtin _ (by decide +kernel), codeAny_builtin PySem.F.entry_type_call ?_⟩
  rw [Around.under_plain (weight_type_call_type "set" [.ref l] []) rfl]
  have nT := PySem.F.called_set.notType
  have can := PySem.F.called_set.canCreate
  have tc := PySem.F.typeCall_set_1 (.ref l)
  repeat (any_goals (first | assumption | wp_step))
  refine codeAny_mono (code_set_led1 (.ref l) (E := E) (Q₁ := fun obj s₁ => obj = .ref s.heap.objs.size ∧ s₁ = { s with heap := s.heap.push (setNew w) }) ⟨rfl, rfl⟩) fun r s₁ hr => ?_
  match r, hr with
  | .error e, hr => exact hr
  | .ok .next, hr => exact hr.elim
  | .ok .brk, hr => exact hr.elim
  | .ok .cont, hr => exact hr.elim
  | .ok (.ret obj), hr =>
    obtain ⟨rfl, rfl⟩ := hr
    have atD : (s.heap.push (setNew w)).get? s.heap.objs.size = some (setNew w) := Heap.get?_push_size _ rfl
    have isT : Shared.TypeIs { s with heap := s.heap.push (setNew w) } (.ref s.heap.objs.size) "set" := ⟨_, atD, rfl⟩
    have li := PySem.F.called_set.init.lookup
    have bi := PySem.F.called_set.init.bind (.ref s.heap.objs.size)
    repeat (any_goals (first | assumption | wp_step))
    refine codeAny_mono (codeAny_call_builtin (R := wants (fun r s₂ => r = .none ∧ ∃ h' tk, s₂ = { s with heap := h', toks := tk } ∧ N.R h' s.heap.objs.size (mors [] ks) ∧ (∀ b o, s.heap.get? b = some o → h'.get? b = some o)) E) PySem.F.called_set.init.plain PySem.F.entry_set_init (check_set_init_1 isT ?_)) fun r₂ s₂ hr₂ => ?_
    · have hz1 : (s.heap.push (setNew w)).objs.size = s.heap.objs.size + 1 := Heap.size_push ..
      have calm3 : A.in1.in1.in1.handled = none := by simp [calm]
      have rest : ∀ {T : String} {s3 : Shared} {St : Nat → Shared → Prop} {wr fp : List Addr} {G : Array GenState → Array GenState → Prop}, (∀ b ∈ fp, b = s.heap.objs.size + 1 ∨ b = l) → (∀ b ∈ wr, b = s.heap.objs.size + 1) →
          WalksS P w A.in1.in1.in1 (s.heap.objs.size + 1) fp wr G items.size (fun i v => items[i]? = some v) St → (∀ a b, G a b → b = a) →
          s3 = { s with heap := (s.heap.push (setNew w)).push { cls := .type T, data := .fields #[.ref l, .int 0 0] } } → St 0 s3 → l < s.heap.objs.size →
          codeAny (model P w) A.in1.in1 (.builtin "set.update.loop" ⟨[.ref s.heap.objs.size, .ref (s.heap.objs.size + 1)], []⟩) (fun r s' => r = .ok (.ret .none) ∧ ∃ h' tk, s' = { s with heap := h', toks := tk } ∧ N.R h' s.heap.objs.size (mors [] ks) ∧ (∀ b o, s.heap.get? b = some o → h'.get? b = some o)) s3 := by
        intro T s3 St wr fp G hfp hwr W hG e3 st ll
        refine upd_loop W s.heap.objs.size (fun z => (hfp _ z).elim (fun z => Nat.ne_of_lt (Nat.lt_succ_self _) z) fun z => Nat.ne_of_gt ll z) ks hn room (fun i v h => val i v h) (items.size - 0) 0 s3 (by omega) (Nat.zero_le _) st ?_ fun s' mv hN => ?_
        · rw [e3]
          exact N.fresh (Heap.get?_push_of_some _ atD)
        · obtain ⟨h', g', d', tk', os'⟩ := s'
          subst e3
          have eg : g' = s.gens := hG _ _ mv.gens
          have ed : d' = s.drawn := mv.drawn
          have eo : os' = s.os := mv.os
          subst eg; subst ed; subst eo
          refine ⟨rfl, h', tk', rfl, hN, fun b o e => ?_⟩
          have lb := Heap.lt_size e
          refine mv.heap b o (fun z => ?_) (Heap.get?_push_of_some _ (Heap.get?_push_of_some _ e))
          rcases List.mem_cons.mp z with z | z
          · exact Nat.ne_of_lt lb z
          · exact Nat.ne_of_lt (Nat.lt_succ_of_lt lb) (hwr b z)
      rcases hl with hl | hl
      · obtain ⟨ol, hol, hcl, nl, hdl⟩ := hl
        obtain ⟨ocls, odict, odata, oslots⟩ := ol
        simp only at hcl hdl
        subst hcl; subst hdl
        have ol' : (s.heap.push (setNew w)).get? l = some { cls := .type "list", dict := odict, data := .seq items nl, slots := oslots } := Heap.get?_push_of_some _ hol
        have sls := PySem.F.sub_list_set
        have slf := PySem.F.sub_list_frozenset
        have ndict : (Value.type "list" == Value.type "dict") = false := by decide
        have isl : (s.heap.push (setNew w)).IsList l items := ⟨_, ol', rfl, nl, rfl⟩
        have ll : l < s.heap.objs.size := Heap.lt_size hol
        unfold Builtin.«set.__init__» noKeywords Builtin.Frozenset.updateFrom
        generalize ePI : pyIter = PI
        wp_walk
        subst ePI
        refine wpAny_pyIter_list isl ?_
        rw [hz1]
        have nI : l ≠ s.heap.objs.size + 1 := Nat.ne_of_lt (Nat.lt_succ_of_lt ll)
        refine wpAny_bind (wpAny_runValue (codeAny_mono (rest (T := "list_iterator") (fun b hb => ?_) (fun b hb => ?_) ((Walks.list calm3 _ l nI items).toS) ?_ rfl ⟨⟨_, by rw [← hz1]; exact Heap.get?_push_size _ rfl, rfl, rfl⟩, isl.push _⟩ ll) fun r s' ⟨er, h', tk, es, hN, old⟩ => ?_))
        · simp only [List.mem_cons, List.not_mem_nil, or_false] at hb
          exact hb
        · exact List.mem_singleton.mp hb
        · exact fun a b h => h
        · subst er
          subst es
          refine wpAny_pure ?_
          show wpAny _ _ (ret Value.none) _ _ _
          exact wpAny_pure ⟨rfl, h', tk, rfl, hN, old⟩
      · obtain ⟨ol, hol, hcl, nl, hdl⟩ := hl
        obtain ⟨ocls, odict, odata, oslots⟩ := ol
        simp only at hcl hdl
        subst hcl; subst hdl
        have ol' : (s.heap.push (setNew w)).get? l = some { cls := .type "tuple", dict := odict, data := .seq items nl, slots := oslots } := Heap.get?_push_of_some _ hol
        have sls := PySem.F.sub_tuple_set
        have slf := PySem.F.sub_tuple_frozenset
        have ndict : (Value.type "tuple" == Value.type "dict") = false := by decide
        have isl : (s.heap.push (setNew w)).IsTuple l items := ⟨_, ol', rfl, nl, rfl⟩
        have ll : l < s.heap.objs.size := Heap.lt_size hol
        unfold Builtin.«set.__init__» noKeywords Builtin.Frozenset.updateFrom
        generalize ePI : pyIter = PI
        wp_walk
        subst ePI
        refine wpAny_pyIter_tuple isl ?_
        rw [hz1]
        have nI : l ≠ s.heap.objs.size + 1 := Nat.ne_of_lt (Nat.lt_succ_of_lt ll)
        refine wpAny_bind (wpAny_runValue (codeAny_mono (rest (T := "tuple_iterator") (fun b hb => ?_) (fun b hb => ?_) ((Walks.tuple calm3 _ l nI items).toS) ?_ rfl ⟨⟨_, by rw [← hz1]; exact Heap.get?_push_size _ rfl, rfl, rfl⟩, isl.push _⟩ ll) fun r s' ⟨er, h', tk, es, hN, old⟩ => ?_))
        · simp only [List.mem_cons, List.not_mem_nil, or_false] at hb
          exact hb
        · exact List.mem_singleton.mp hb
        · exact fun a b h => h
        · subst er
          subst es
          refine wpAny_pure ?_
          show wpAny _ _ (ret Value.none) _ _ _
          exact wpAny_pure ⟨rfl, h', tk, rfl, hN, old⟩
    · match r₂, hr₂ with
      | .error e, hr₂ => exact hr₂
      | .ok .next, hr₂ => exact hr₂.elim
      | .ok .brk, hr₂ => exact hr₂.elim
      | .ok .cont, hr₂ => exact hr₂.elim
      | .ok (.ret r), hr₂ =>
        obtain ⟨rfl, h', tk, rfl, hN, old⟩ := hr₂
        repeat (any_goals (first | assumption | wp_step))
        exact k _ _ hN old
end
end
end Z
set_option maxRecDepth 100000
set_option maxHeartbeats 4000000
namespace Z
open PySem PySem.Spec PyProof.Rows L2 PySem.Froz
section
variable {X : Cx} {κ : Type} [DecidableEq κ]
structure rSetOf {P : Program} {w : World} (N : SK P w κ) (K : PySem.W.Frag) (xs : List V) (H : Hp) (Q : VK) : Prop where
  h : ∃ a ks, xs = [.ref a] ∧ (SqL K H a (ks.map N.vv) ∨ SqT K H a (ks.map N.vv)) ∧ ks.length + 1 < scanBound ∧ ∀ p, H p = none → Q (.ref p) (upd H p (SetH N p (mors [] ks)))
theorem setOf {P : Program} {w : World} {N : SK P w κ} {K : PySem.W.Frag} {H : Hp} {Q : VK} {a : Addr} {ks : List κ} (h : SqL K H a (ks.map N.vv) ∨ SqT K H a (ks.map N.vv)) (few : ks.length + 1 < scanBound)
    (q : ∀ p H1, H p = none → Same H H1 → H1 p = some (SetH N p (mors [] ks)) → Q (.ref p) H1) : rSetOf N K [.ref a] H Q := ⟨a, ks, rfl, h, few, fun p np => q p _ np (sNew np) upd_same⟩
theorem vals_ks {P : Program} {w : World} {N : SK P w κ} {ks : List κ} {its : List Value} (r : Vals (ks.map N.vv) its) : ks.length = its.toArray.size ∧ ∀ (i : Nat) (v : Value), its.toArray[i]? = some v → ∃ k u, ks[i]? = some k ∧ v = N.mkv k u := by
  have hl := r.length
  rw [List.length_map] at hl
  refine ⟨by rw [List.size_toArray]; exact hl, fun i v hv => ?_⟩
  rw [List.getElem?_toArray] at hv
  have hi : i < ks.length := by rw [hl]; exact (List.getElem?_eq_some_iff.mp hv).1
  have g : (ks.map N.vv)[i]? = some (N.vv ks[i]) := by rw [List.getElem?_map, List.getElem?_eq_getElem hi]; rfl
  obtain ⟨u, z1, z2⟩ := r.get g
  rw [hv] at z1
  cases z1
  obtain ⟨t, e⟩ := N.rel z2
  exact ⟨ks[i], t, List.getElem?_eq_getElem hi, e⟩
theorem call_setOf {P : Program} {w : World} (N : SK P w κ) {K : PySem.W.Frag} (calm : X.calm = true) (hP : X.prog = P := by rfl) (hw : X.w = w := by rfl) (hK : X.K = K := by rfl) : CallR X (.type "set") (rSetOf N K) := by
  subst hP
  subst hw
  subst hK
  intro pins s σ H xs us Q I r h
  obtain ⟨a, ks, rfl, hs, few, q⟩ := h.h
  rw [Vals.ref1 r]
  have fin : ∀ {its : List Value}, Vals (ks.map N.vv) its → (s.heap.IsList a its.toArray ∨ s.heap.IsTuple a its.toArray) → wpAny (model X.prog X.w) X.A (call (.type "set") [.ref a]) (EP X pins σ Q) X.xe s := fun {its} rv hl => by
    obtain ⟨h1, h2⟩ := vals_ks rv
    refine set_from (N := N) (I.ok.hd calm) hl h1 h2 few fun h' tk hN old => ?_
    exact ⟨.ref _, upd H s.heap.objs.size (SetH N s.heap.objs.size (mors [] ks)), I.laid (t' := tk) old (Nat.le_refl _) (setH_new hN), rfl, q _ (I.hok.fresh (Nat.le_refl _))⟩
  rcases hs with hs | hs
  · obtain ⟨its, rv, pl, _⟩ := I.list hs
    exact fin rv (.inl pl.isList)
  · obtain ⟨its, rv, pl, _⟩ := I.tuple hs
    exact fin rv (.inr pl)
def rLenH {P : Program} {w : World} (N : SK P w κ) : List V → Hp → VK → Prop := fun xs H Q => ∃ a l, xs = [.ref a] ∧ H a = some (SetH N a l) ∧ Q (.int l.length) H
theorem call_lenH {P : Program} {w : World} (N : SK P w κ) (hP : X.prog = P := by rfl) (hw : X.w = w := by rfl) : CallR X (.builtin "len") (rLenH N) := by
  subst hP
  subst hw
  intro pins s σ H xs us Q I r ⟨a, l, e, ha, q⟩
  subst e
  rw [Vals.ref1 r]
  obtain ⟨o, es, ep, t, ho, hex, hd, hf, hn, hb⟩ := N.len (setH_get I ha)
  refine call_len_set ho hex hd hf (by unfold scanBound at hb; omega) ⟨.int l.length, H, I.tok _, ⟨_, by rw [hn]⟩, q⟩
end
section
variable {X : Cx}
theorem le_cover {α : Type} [DecidableEq α] : ∀ {l m : List α}, l.Nodup → (∀ y ∈ l, y ∈ m) → l.length ≤ m.length
  | [], _, _, _ => Nat.zero_le _
  | x :: l, m, nd, h => by
    obtain ⟨n1, n2⟩ := List.nodup_cons.mp nd
    have hx := h x List.mem_cons_self
    have ih := le_cover (m := m.erase x) n2 fun y hy => (List.mem_erase_of_ne (fun e => n1 (by rw [← e]; exact hy))).mpr (h y (List.mem_cons_of_mem _ hy))
    rw [List.length_erase_of_mem hx] at ih
    have : 0 < m.length := List.length_pos_of_mem hx
    show l.length + 1 ≤ _
    omega
theorem cover {α : Type} [DecidableEq α] : ∀ {l m : List α}, l.Nodup → (∀ y ∈ l, y ∈ m) → m.length ≤ l.length → m.Nodup
  | [], m, _, _, h => by
    have : m = [] := List.length_eq_zero_iff.mp (Nat.le_zero.mp h)
    rw [this]
    exact List.nodup_nil
  | x :: l, m, nd, h, hl => by
    obtain ⟨n1, n2⟩ := List.nodup_cons.mp nd
    have hx := h x List.mem_cons_self
    have sub : ∀ y ∈ l, y ∈ m.erase x := fun y hy => (List.mem_erase_of_ne (fun e => n1 (by rw [← e]; exact hy))).mpr (h y (List.mem_cons_of_mem _ hy))
    have len : (m.erase x).length ≤ l.length := by
      rw [List.length_erase_of_mem hx]
      have : m.length ≤ l.length + 1 := hl
      omega
    have ih := cover n2 sub len
    have nx : x ∉ m.erase x := fun hm => by
      have := le_cover nd (m := m.erase x) fun y hy => (List.mem_cons.mp hy).elim (fun e => by rw [e]; exact hm) (sub y)
      have : l.length + 1 ≤ (m.erase x).length := this
      omega
    exact (List.perm_cons_erase hx).nodup_iff.mpr (List.nodup_cons.mpr ⟨nx, ih⟩)
def rSortHS (P : Program) (w : World) : List V → Hp → VK → Prop := fun vs H Q => ∃ (a : Addr) (l : List PySem.Str), vs = [V.ref a] ∧ H a = some (SetH (strSK P w) a l) ∧ l.length < 64 ∧ ∀ p, H p = none → Q (.ref p) (upd H p (.lst ((ascS l).map V.str)))
def rSortHI (P : Program) (w : World) : List V → Hp → VK → Prop := fun vs H Q => ∃ (a : Addr) (l : List Int), vs = [V.ref a] ∧ H a = some (SetH (intSK P w) a l) ∧ l.length < 64 ∧ ∀ p, H p = none → Q (.ref p) (upd H p (.lst ((ascI l).map V.int)))
theorem strs_of : ∀ (l : List Value), (∀ v ∈ l, ∃ k tk, v = Value.str k tk) → ∃ ks, StrsAre l ks
  | [], _ => ⟨[], .nil⟩
  | v :: l, h => by
    obtain ⟨k, tk, rfl⟩ := h v List.mem_cons_self
    obtain ⟨ks, hk⟩ := strs_of l fun u hu => h u (List.mem_cons_of_mem _ hu)
    exact ⟨k :: ks, .cons k tk hk⟩
theorem strs_mem : ∀ {l : List Value} {ks : List PySem.Str}, StrsAre l ks → ∀ k, k ∈ ks ↔ ∃ t, Value.str k t ∈ l
  | _, _, .nil, k => by simp
  | _, _, .cons x t r, k => by
    rw [List.mem_cons, strs_mem r]
    constructor
    · rintro (rfl | ⟨u, h⟩)
      · exact ⟨t, List.mem_cons_self⟩
      · exact ⟨u, List.mem_cons_of_mem _ h⟩
    · rintro ⟨u, h⟩
      rcases List.mem_cons.mp h with e | h
      · cases e
        exact .inl rfl
      · exact .inr ⟨u, h⟩
theorem sort_setS {P : Program} {w : World} {A : Around} {E : Value → Shared → Prop} {s : Shared} {a : Addr} {l : List PySem.Str} {Q : Value → Shared → Prop} (R : SetS P w s.heap a l) (calm : A.handled = none) (few : l.length < 64)
    (k : ∀ s' p (out : Array Value) (c : Nat), (∀ b o, s.heap.get? b = some o → s'.heap.get? b = some o) → s'.gens = s.gens → s'.os = s.os → s.heap.objs.size ≤ p →
      s'.heap.get? p = some (seqObj "list" out c) → StrsAre out.toList (ascS l) → Q (.ref p) s') : wpAny (model P w) A (call (.builtin "sorted") [.ref a]) Q E s := by
  obtain ⟨⟨es, ep, t⟩, ho, F, nd, bl, ri, le⟩ := R
  have sz : es.size = l.length := F.sz
  have el : ElemsOf (PySem.strKind P w) es.toList := F.el
  refine Calls.call_function_entry kind_sorted plain_sorted entry_sorted (args_sorted1 _) ?_
  unfold Builtin.«sorted»
  refine wpAny_bind (m := checkCount "sorted" 1 1 _) (wpAny_pure ?_)
  refine wpAny_bind (collect_set (A := A.in1) calm ⟨_, ho, rfl, rfl⟩ F.fit (by rw [sz]; exact bl) ri le fun s1 vs k1 hz g1 o1 pm => ?_)
  have vl : vs.length = l.length := by rw [pm.length_eq, List.length_map, Array.length_toList]; exact sz
  have isS : ∀ v ∈ es.toList.map (·.2), ∃ k tk, v = Value.str k tk := fun v hv => by
    obtain ⟨e, he, rfl⟩ := List.mem_map.mp hv
    obtain ⟨⟨k, hk, _⟩, _⟩ := el e he
    obtain ⟨tk, h⟩ := Value.isStrOf_shape hk
    exact ⟨k, tk, h⟩
  obtain ⟨ks, hS⟩ := strs_of vs fun v hv => isS v (pm.mem_iff.mp hv)
  have kmem : ∀ y, y ∈ ks ↔ y ∈ l := fun y => by
    rw [strs_mem hS, F.mem y]
    constructor
    · rintro ⟨tk, h⟩
      obtain ⟨e, he, h2⟩ := List.mem_map.mp (pm.mem_iff.mp h)
      exact ⟨e, he, by rw [h2]; exact is_str y tk⟩
    · rintro ⟨e, he, h2⟩
      obtain ⟨tk, h⟩ := Value.isStrOf_shape h2
      exact ⟨tk, pm.mem_iff.mpr (List.mem_map.mpr ⟨e, he, h⟩)⟩
  have kl : ks.length = l.length := by rw [← hS.length]; exact vl
  have knd : ks.Nodup := by
    have sub : l ⊆ ks := fun y hy => (kmem y).mpr hy
    exact cover nd sub (Nat.le_of_eq kl)
  refine wpAny_bind (wpAny_newList ?_ (by rw [vl, sizeLine_eq]; omega))
  have hoL : (s1.heap.push (seqObj "list" vs.toArray 0)).get? s1.heap.objs.size = some (seqObj "list" vs.toArray 0) := Heap.get?_push_size _ rfl
  refine wpAny_bind (wpAny_holding (wpAny_call_entry slot_list_sort ⟨_, hoL, rfl⟩ entry_list_sort (list_sort_treeK strKind_oneLt hoL hS.keysOf (fun v₁ v₂ rest e => keyKind_strs (by rw [← e]; exact hS)) (by rw [vl]; exact few) fun st' hp hs => ?_) (args_list_sort _)))
  obtain ⟨ys, y1, y2, y3⟩ := sorted_out_str hS hp hs
  have ey : ys = ascS l := sorted_asc y3 (y2.nodup_iff.mpr knd) fun y => by rw [y2.mem_iff, kmem]
  subst ey
  refine ⟨_, rfl, ?_⟩
  obtain ⟨c, hc⟩ := sortedHeap_at (vs := vs) (out := (arrOf st').map (·.2)) hoL
  refine wpAny_pure ⟨_, rfl, k _ s1.heap.objs.size _ c (fun b u e => ?_) g1 o1 hz hc y1⟩
  have q := k1 b u e
  have lt := Heap.lt_size q
  show (sortedHeap (s1.heap.push (seqObj "list" vs.toArray 0)) s1.heap.objs.size vs ((arrOf st').map (·.2))).get? b = some u
  rw [sortedHeap_old (Nat.ne_of_lt lt) (by rw [size_push']; exact Nat.lt_succ_of_lt lt)]
  exact Heap.get?_push_of_some _ q
theorem call_sortHS {P : Program} {w : World} (calm : X.calm = true) (hP : X.prog = P := by rfl) (hw : X.w = w := by rfl) : CallR X (.builtin "sorted") (rSortHS P w) := by
  subst hP
  subst hw
  intro pins s σ H vs us Q I r ⟨a, l, e, ha, few, q⟩
  subst e
  rw [Vals.ref1 r]
  refine sort_setS (setH_get I ha) (I.ok.hd calm) few fun s' p out c k g o hp hg hi => ?_
  have hlen : ((ascS l).map V.str).length ≤ sizeLine := by
    have : (ascS l).length ≤ l.length := Ord.len_asc
    rw [List.length_map, sizeLine_eq]
    omega
  have hn : H p = none := I.hok.fresh hp
  have J : Inv X pins σ (upd H p (.lst ((ascS l).map V.str))) { s with heap := s'.heap, gens := s'.gens, drawn := s'.drawn, toks := s'.toks } :=
    I.call (ch := []) (Un.laid k hp hn) (I.hok.laid k hp ⟨hlen, out.toList, c, vals_of_strs hi, hg⟩) (by rw [g]; exact I.bare) (fun _ z => nomatch z)
  have e : s' = { s with heap := s'.heap, gens := s'.gens, drawn := s'.drawn, toks := s'.toks } := by
    cases s'
    cases s
    cases o
    rfl
  rw [e]
  exact ⟨.ref p, _, J, rfl, q p hn⟩
theorem call_sortHI {P : Program} {w : World} (calm : X.calm = true) (hP : X.prog = P := by rfl) (hw : X.w = w := by rfl) : CallR X (.builtin "sorted") (rSortHI P w) := by
  subst hP
  subst hw
  intro pins s σ H vs us Q I r ⟨a, l, e, ha, few, q⟩
  subst e
  rw [Vals.ref1 r]
  have R : (intSK X.prog X.w).R s.heap a l := setH_get I ha
  refine sorted_set R.2 (I.ok.hd calm) few fun s' p out c ns k g o hp hg hi hs hm hl => ?_
  have en : ns = ascI l := ints_asc hs fun y => by rw [hm, decide_eq_true_eq]
  subst en
  have hlen : ((ascI l).map V.int).length ≤ sizeLine := by rw [List.length_map, hl, sizeLine_eq]; omega
  have hn : H p = none := I.hok.fresh hp
  have J : Inv X pins σ (upd H p (.lst ((ascI l).map V.int))) { s with heap := s'.heap, gens := s'.gens, drawn := s'.drawn, toks := s'.toks } :=
    I.call (ch := []) (Un.laid k hp hn) (I.hok.laid k hp ⟨hlen, out.toList, c, vals_of_ints hi, hg⟩) (by rw [g]; exact I.bare) (fun _ z => nomatch z)
  have e : s' = { s with heap := s'.heap, gens := s'.gens, drawn := s'.drawn, toks := s'.toks } := by
    cases s'
    cases s
    cases o
    rfl
  rw [e]
  exact ⟨.ref p, _, J, rfl, q p hn⟩
end
end Z
set_option maxRecDepth 100000
set_option maxHeartbeats 4000000
namespace Z
open PySem PySem.Spec PyProof.Rows L2
section
variable {X : Cx} {CX : CXT} {C f : Addr} {fd : FuncData} {ps : List Str} {sp : Sp} {E : XK} {n : Nat}
theorem own_call {pins : List (Addr × Obj)} {σ : L2.St} {H : Hp} {s : Shared} {A' : Around} {us : List Value} {vs : List V} {Qv : Value → Shared → Prop} {E' : Value → Shared → Prop} {W : V → Hp → Prop} (F : FnOk X.prog X.w X.K X.mg X.base CX n f fd ps sp) (hb : Binds X.K fd ps []) (I : Inv X pins σ H s)
    (e0 : Env0 X.prog X.w X.K X.mg X.base A' X.stack s H) (hr : Room n A') (rv : Vals vs us) (hsp : sp vs H W E) (hx : ∀ e s', CX X.stack H s E e s' → E' e s')
    (back : ∀ v u H' s', Inv X pins σ H' s' → RelV v u → W v H' → Qv u s') : wpAny (model X.prog X.w) A' (call (.ref f) us) Qv E' s := by
  have hl := F.len _ _ _ _ hsp
  refine wpAny_call (codeAny_mono (F.run A' X.stack s H ⟨us, []⟩ us vs _ E hr e0 (by
    have := hb s us I.kIn (by rw [List.append_nil, ← rv.length]; exact hl)
    simpa using this) rv hsp) fun r s' hq => ?_)
  cases r with
  | error e => exact hx e s' hq
  | ok fl =>
    cases fl with
    | ret w =>
      obtain ⟨v, H', I', rz, q⟩ := I.after hq
      exact back v w H' s' I' rz q
    | next => exact False.elim hq
    | brk => exact False.elim hq
    | cont => exact False.elim hq
theorem env_in1 {pins : List (Addr × Obj)} {σ : L2.St} {H : Hp} {s : Shared} (I : Inv X pins σ H s) : Env0 X.prog X.w X.K X.mg X.base X.A.in1 X.stack s H := by
  have e := I.env0
  exact ⟨e.frames, e.mod, e.bs, e.bsz, e.funs, e.frf, e.hok, e.bare⟩
def rLenO (C : Addr) (sp : Sp) (E : XK) : List V → Hp → VK → Prop := fun xs H Q => ∃ p dx fs, xs = [.ref p] ∧ H p = some (.ins C dx fs) ∧ sp [.ref p] H (fun v H' => ∃ m : Nat, v = .int m ∧ m < 1000000 ∧ Q (.int m) H') E
theorem call_lenO (F : FnOk X.prog X.w X.K X.mg X.base CX n f fd ps sp) (hs : PySem.W.findIn X.K (.ref C) "__len__" = some (some (.ref f))) (hf : PySem.W.isFn X.K (.ref f) = true)
    (hb : Binds X.K fd ps []) (hx : Passes CX X E) (hr : Room (n + 1) X.A) : CallR X (.builtin "len") (rLenO C sp E) := by
  intro pins s σ H xs us Q I r ⟨p, dx, fs, e, hp, hsp⟩
  subst e
  obtain ⟨u, rfl, rx⟩ := vals1 r
  cases (show u = Value.ref p from rx)
  obtain ⟨mA, J, _⟩ := ins_get I.hok hp
  obtain ⟨od, J, _⟩ := J.look
  refine Calls.call_function_entry kind_len plain_len entry_len (args_len1 _) ?_
  unfold Builtin.«len»
  refine wpAny_bind (m := oneArg "len" _) (wpAny_pure ?_)
  refine wpAny_bind (m := callSpecial? (.ref p) (Str.ofString "__len__")) (PySem.W.special_fn I.kIn J hs (beq_iff_eq.mp hf) ?_)
  refine own_call (vs := [.ref p]) F hb I (env_in1 I) hr.in1 (.cons rfl .nil) hsp (fun e s' hq => hx pins σ H s e s' I hq) ?_
  rintro v u H' s' I' rz ⟨m, ez, lt, q⟩
  subst ez
  obtain ⟨t, rfl⟩ := rz
  refine wpAny_bind (wpAny_holding (wpAny_pure ?_))
  refine wpAny_bind (wpAny_letGo ?_)
  show wpAny _ _ (if ((m : Nat) : Int) < 0 then _ else _) _ _ _
  rw [if_neg (by omega)]
  show wpAny _ _ (if ((m : Nat) : Int) ≥ 2 ^ 63 then _ else _) _ _ _
  rw [if_neg (by omega)]
  exact wpAny_bind (wpAny_mkInt (wpAny_pure ⟨_, rfl, .int m, H', I'.tok _, ⟨_, rfl⟩, q⟩))
structure rInO (C : Addr) (sp : Sp) (E : XK) (neg : Bool) (y x : V) (H : Hp) (Q : VK) : Prop where
  h : ∃ p dx fs, x = .ref p ∧ H p = some (.ins C dx fs) ∧ sp [.ref p, y] H (fun v H' => ∃ b : Bool, v = .bl b ∧ Q (.bl (b != neg)) H') E
theorem own_contains {pins : List (Addr × Obj)} {σ : L2.St} {H : Hp} {s : Shared} {p dx : Addr} {fs : List (Str × V)} {y : V} {v : Value} {Qb : Bool → Shared → Prop} {W : V → Hp → Prop} (F : FnOk X.prog X.w X.K X.mg X.base CX n f fd ps sp) (hs : PySem.W.findIn X.K (.ref C) "__contains__" = some (some (.ref f))) (hf : PySem.W.isFn X.K (.ref f) = true)
    (hb : Binds X.K fd ps []) (hx : Passes CX X E) (hr : Room n X.A) (I : Inv X pins σ H s) (ry : RelV y v) (hp : H p = some (.ins C dx fs)) (hsp : sp [.ref p, y] H W E) (back : ∀ z H' s', Inv X pins σ H' s' → W z H' → ∃ b : Bool, z = .bl b ∧ Qb b s') :
    wpAny (model X.prog X.w) X.A (contains (.ref p) v) Qb X.xe s := by
  obtain ⟨mA, J, _⟩ := ins_get I.hok hp
  obtain ⟨od, J, _⟩ := J.look
  have ln : stdlibNamesSay? (.ref p) v = none := by
    unfold stdlibNamesSay?
    rfl
  unfold contains
  refine wpAny_holding ?_
  rw [ln]
  refine wpAny_bind (wpAny_bind (J.type.here ((PySem.W.looks_findIn I.kIn hs).here ?_)))
  refine wpAny_bind ?_
  refine wpAny_mono (Q := fun r s' => ∃ u, r = some u ∧ wpAny (model X.prog X.w) X.A (truthy u) Qb X.xe s') ?_ (fun r s' ⟨u, e, h⟩ => by rw [e]; exact h) fun _ _ e => e
  unfold callSpecialUnlessNone?
  refine wpAny_bind (wpAny_bind (J.type.here ((PySem.W.looks_findIn I.kIn hs).here ?_)))
  refine wpAny_holding (wpAny_bind ((PySem.W.bind_fn I.kIn _ (beq_iff_eq.mp hf)).here ?_))
  show wpAny _ _ (if (Value.ref f == Value.none) = true then _ else _) _ _ _
  rw [if_neg (show ¬ ((Value.ref f == Value.none) = true) from Bool.false_ne_true)]
  refine wpAny_bind (own_call (vs := [.ref p, y]) F hb I I.env0 hr (.cons rfl (.cons ry .nil)) hsp (fun e s' hq => hx pins σ H s e s' I hq) ?_)
  intro z u H' s' I' rz hw
  obtain ⟨b, ez, q⟩ := back z H' s' I' hw
  subst ez
  obtain rfl : u = Value.bool b := rz
  exact wpAny_pure ⟨_, rfl, wpAny_truthy_bool q⟩
theorem op_inO {K : PySem.W.Frag} (F : FnOk X.prog X.w X.K X.mg X.base CX n f fd ps sp) (hs : PySem.W.findIn X.K (.ref C) "__contains__" = some (some (.ref f))) (hf : PySem.W.isFn X.K (.ref f) = true)
    (hb : Binds X.K fd ps []) (hx : Passes CX X E) (hr : Room n X.A) : OpR X (compareOp .In) (rInO C sp E false) := by
  intro pins s σ H y x v u Q I ry rx ⟨p, dx, fs, ex, hp, hsp⟩
  subst ex
  obtain rfl : u = Value.ref p := rx
  show wpAny _ _ (do return Value.bool (← contains (.ref p) v)) _ _ s
  refine wpAny_bind (own_contains (Qb := fun b s' => wpAny (model X.prog X.w) X.A (pure (Value.bool b)) (EP X pins σ Q) X.xe s') F hs hf hb hx hr I ry hp hsp ?_)
  rintro z H' s' I' ⟨b, ez, q⟩
  refine ⟨b, ez, wpAny_pure ⟨.bl b, H', I', rfl, ?_⟩⟩
  simpa using q
theorem op_notInO {K : PySem.W.Frag} (F : FnOk X.prog X.w X.K X.mg X.base CX n f fd ps sp) (hs : PySem.W.findIn X.K (.ref C) "__contains__" = some (some (.ref f))) (hf : PySem.W.isFn X.K (.ref f) = true)
    (hb : Binds X.K fd ps []) (hx : Passes CX X E) (hr : Room n X.A) : OpR X (compareOp .NotIn) (rInO C sp E true) := by
  intro pins s σ H y x v u Q I ry rx ⟨p, dx, fs, ex, hp, hsp⟩
  subst ex
  obtain rfl : u = Value.ref p := rx
  show wpAny _ _ (do return Value.bool (!(← contains (.ref p) v))) _ _ s
  refine wpAny_bind (own_contains (Qb := fun b s' => wpAny (model X.prog X.w) X.A (pure (Value.bool (!b))) (EP X pins σ Q) X.xe s') F hs hf hb hx hr I ry hp hsp ?_)
  rintro z H' s' I' ⟨b, ez, q⟩
  refine ⟨b, ez, wpAny_pure ⟨.bl (!b), H', I', rfl, ?_⟩⟩
  simpa using q
structure rIsiA (K : PySem.W.Frag) (xs : List V) (H : Hp) (Q : VK) : Prop where
  h : rIsi K xs H Q ∨ rIsiT K xs H Q
variable {e : Expr} {es : List Expr} {t : TA} {p pos : Pos}
theorem cb_isiA {K : PySem.W.Frag} (B : Bi X.mg) (ha : PA X (e :: es) t) (hk : X.K = K := by rfl) (hg : Gl X "isinstance" := by rfl) (he : starEach (e :: es) X.env = (false, eval e X.env) :: starEach es X.env := by rfl) (hpl : (backTo pos (starEach es X.env)).any (·.1) = false := by rfl) :
    PE X (.Call (.Name "isinstance" p) (e :: es) [] pos) (tCB (rIsiA K) t) := by
  subst hk
  exact pe_callB (CallR.box (CallR.or call_isi call_isiT) fun _ _ _ q => q.h) hg B.isinstance boot_isi ha (he := he) (hpl := hpl)
structure rEqY (K : PySem.W.Frag) (C : Addr) (sp : Sp) (E : XK) (x y : V) (H : Hp) (Q : VK) : Prop where
  h : ∃ a dx fs t, x = .ref a ∧ H a = some (.ins C dx fs) ∧ TyX K H y t ∧ PySem.W.notFirst K C t = true ∧ sp [x, y] H (fun v H' => ∃ r, v = .bl r ∧ Q (.bl r) H') E
theorem op_eqY {K : PySem.W.Frag} (F : FnOk X.prog X.w X.K X.mg X.base CX n f fd ps sp) (hs : PySem.W.findIn X.K (.ref C) "__eq__" = some (some (.ref f)))
    (hf : PySem.W.isFn X.K (.ref f) = true) (hb : Binds X.K fd ps []) (hx : Passes CX X E) (hr : Room n X.A) (hk : X.K = K := by rfl) : OpR X (compareOp .Eq) (rEqY K C sp E) := by
  subst hk
  intro pins s σ H x y u v Q I rx ry ⟨a, dx, fs, t, ex, ha, ty, nf, hsp⟩
  subst ex
  obtain rfl : u = Value.ref a := rx
  obtain ⟨mA, J, _⟩ := ins_get I.hok ha
  obtain ⟨od, J, _⟩ := J.look
  obtain ⟨m, hF⟩ := I.fr
  obtain ⟨P, Z, p, _⟩ := kit_of I ry ty
  refine PySem.W.cmp_K (op := .Eq) (tb := t) hr.units0 hF I.ok.mod.kin J (Z.ty _ _ I.kIn p) nf hs hf ?_
  refine own_call (vs := [.ref a, y]) F hb I I.env0 hr (.cons rfl (.cons ry .nil)) hsp (fun e s' hq => hx pins σ H s e s' I hq) ?_
  rintro z u' H' s' I' rz ⟨r, ez, q⟩
  subst ez
  obtain rfl : u' = Value.bool r := rz
  exact ⟨.bl r, H', I', rfl, q⟩
end
end Z
set_option maxRecDepth 100000
set_option maxHeartbeats 4000000
namespace Z
open PySem PySem.Spec PyProof.Rows L2
def topS (i : Nat) : Stmt := PySem.Challenge.pw_tiedsteps_k01_whole_terms_beside_trees.main.body.getD i (.Pass ⟨0, 0, 0, 0⟩)
abbrev s_is_whole : Stmt := topS 9
theorem sc_is_whole : FnScope ["value"] ["value"] (defScope s_is_whole) := ⟨rfl, rfl, rfl, by decide +kernel, rfl, by decide +kernel, by decide +kernel⟩
abbrev s_is_number : Stmt := topS 10
theorem sc_is_number : FnScope ["value", "low", "high"] ["value", "low", "high"] (defScope s_is_number) := ⟨rfl, rfl, rfl, by decide +kernel, rfl, by decide +kernel, by decide +kernel⟩
abbrev s_is_word : Stmt := topS 11
theorem sc_is_word : FnScope ["value", "sign"] ["value"] (defScope s_is_word) := ⟨rfl, rfl, rfl, by decide +kernel, rfl, by decide +kernel, by decide +kernel⟩
abbrev s_is_digit : Stmt := topS 12
theorem sc_is_digit : FnScope ["value"] ["value"] (defScope s_is_digit) := ⟨rfl, rfl, rfl, by decide +kernel, rfl, by decide +kernel, by decide +kernel⟩
abbrev s_ascending_words : Stmt := topS 13
theorem sc_ascending_words : FnScope ["words", "word"] ["words"] (defScope s_ascending_words) := ⟨rfl, rfl, rfl, by decide +kernel, rfl, by decide +kernel, by decide +kernel⟩
abbrev s_ascending_numbers : Stmt := topS 14
theorem sc_ascending_numbers : FnScope ["numbers", "number"] ["numbers"] (defScope s_ascending_numbers) := ⟨rfl, rfl, rfl, by decide +kernel, rfl, by decide +kernel, by decide +kernel⟩
abbrev s_word_at : Stmt := topS 19
theorem sc_word_at : FnScope ["text", "at", "last"] ["text", "at"] (defScope s_word_at) := ⟨rfl, rfl, rfl, by decide +kernel, rfl, by decide +kernel, by decide +kernel⟩
abbrev s_plan_at : Stmt := topS 20
theorem sc_plan_at : FnScope ["text", "at", "deep", "word", "parts", "sign", "found", "part"] ["text", "at", "deep"] (defScope s_plan_at) := ⟨rfl, rfl, rfl, by decide +kernel, rfl, by decide +kernel, by decide +kernel⟩
abbrev s_depth_of : Stmt := topS 21
theorem sc_depth_of : FnScope ["plan", "part"] ["plan"] (defScope s_depth_of) := ⟨rfl, rfl, rfl, by decide +kernel, rfl, by decide +kernel, by decide +kernel⟩
abbrev s_text_of : Stmt := topS 22
theorem sc_text_of : FnScope ["plan", "one", "other", "same", "unlike", "part"] ["plan"] (defScope s_text_of) := ⟨rfl, rfl, rfl, by decide +kernel, rfl, by decide +kernel, by decide +kernel⟩
abbrev s_leaves_of : Stmt := topS 23
theorem sc_leaves_of : FnScope ["plan", "found", "part"] ["plan"] (defScope s_leaves_of) := ⟨rfl, rfl, rfl, by decide +kernel, rfl, by decide +kernel, by decide +kernel⟩
abbrev s_stands_in : Stmt := topS 25
theorem sc_stands_in : FnScope ["plan", "whole", "part"] ["plan", "whole"] (defScope s_stands_in) := ⟨rfl, rfl, rfl, by decide +kernel, rfl, by decide +kernel, by decide +kernel⟩
abbrev s_plan_of : Stmt := topS 26
theorem sc_plan_of : FnScope ["value", "found"] ["value"] (defScope s_plan_of) := ⟨rfl, rfl, rfl, by decide +kernel, rfl, by decide +kernel, by decide +kernel⟩
abbrev s_Term___init__ : Stmt := inClass (topS 27) 0
theorem sc_Term___init__ : FnScope ["self", "value", "plan"] ["self", "value"] (defScope s_Term___init__) := ⟨rfl, rfl, rfl, by decide +kernel, rfl, by decide +kernel, by decide +kernel⟩
abbrev s_Term_choice : Stmt := inClass (topS 27) 1
theorem sc_Term_choice : FnScope ["one", "other", "same", "unlike", "plans", "value", "plan"] ["one", "other", "same", "unlike"] (defScope s_Term_choice) := ⟨rfl, rfl, rfl, by decide +kernel, rfl, by decide +kernel, by decide +kernel⟩
abbrev s_Term___str__ : Stmt := inClass (topS 27) 2
theorem sc_Term___str__ : FnScope ["self"] ["self"] (defScope s_Term___str__) := ⟨rfl, rfl, rfl, by decide +kernel, rfl, by decide +kernel, by decide +kernel⟩
abbrev s_Term_depth : Stmt := inClass (topS 27) 3
theorem sc_Term_depth : FnScope ["self"] ["self"] (defScope s_Term_depth) := ⟨rfl, rfl, rfl, by decide +kernel, rfl, by decide +kernel, by decide +kernel⟩
abbrev s_Term_kind : Stmt := inClass (topS 27) 4
theorem sc_Term_kind : FnScope ["self"] ["self"] (defScope s_Term_kind) := ⟨rfl, rfl, rfl, by decide +kernel, rfl, by decide +kernel, by decide +kernel⟩
abbrev s_Term_variables : Stmt := inClass (topS 27) 5
theorem sc_Term_variables : FnScope ["self", "leaf"] ["self"] (defScope s_Term_variables) := ⟨rfl, rfl, rfl, by decide +kernel, rfl, by decide +kernel, by decide +kernel⟩
abbrev s_Term_constants : Stmt := inClass (topS 27) 6
theorem sc_Term_constants : FnScope ["self", "leaf"] ["self"] (defScope s_Term_constants) := ⟨rfl, rfl, rfl, by decide +kernel, rfl, by decide +kernel, by decide +kernel⟩
abbrev s_Term_parts : Stmt := inClass (topS 27) 7
theorem sc_Term_parts : FnScope ["self", "part"] ["self"] (defScope s_Term_parts) := ⟨rfl, rfl, rfl, by decide +kernel, rfl, by decide +kernel, by decide +kernel⟩
abbrev s_Term___contains__ : Stmt := inClass (topS 27) 10
theorem sc_Term___contains__ : FnScope ["self", "value", "leaf"] ["self", "value"] (defScope s_Term___contains__) := ⟨rfl, rfl, rfl, by decide +kernel, rfl, by decide +kernel, by decide +kernel⟩
abbrev s_Term___len__ : Stmt := inClass (topS 27) 11
theorem sc_Term___len__ : FnScope ["self"] ["self"] (defScope s_Term___len__) := ⟨rfl, rfl, rfl, by decide +kernel, rfl, by decide +kernel, by decide +kernel⟩
abbrev s_Term___eq__ : Stmt := inClass (topS 27) 12
theorem sc_Term___eq__ : FnScope ["self", "other"] ["self", "other"] (defScope s_Term___eq__) := ⟨rfl, rfl, rfl, by decide +kernel, rfl, by decide +kernel, by decide +kernel⟩
abbrev s_Term_within : Stmt := inClass (topS 27) 13
theorem sc_Term_within : FnScope ["self", "other"] ["self", "other"] (defScope s_Term_within) := ⟨rfl, rfl, rfl, by decide +kernel, rfl, by decide +kernel, by decide +kernel⟩
abbrev s__law_pool : Stmt := topS 29
theorem sc__law_pool : FnScope ["script", "k", "cell", "size", "mixed"] ["script", "k"] (defScope s__law_pool) := ⟨rfl, rfl, rfl, by decide +kernel, rfl, by decide +kernel, by decide +kernel⟩
abbrev s__law_take : Stmt := topS 30
theorem sc__law_take : FnScope ["pool", "bound", "result"] ["pool", "bound"] (defScope s__law_take) := ⟨rfl, rfl, rfl, by decide +kernel, rfl, by decide +kernel, by decide +kernel⟩
abbrev s__law_one : Stmt := topS 31
theorem sc__law_one : FnScope ["pool", "things"] ["pool", "things"] (defScope s__law_one) := ⟨rfl, rfl, rfl, by decide +kernel, rfl, by decide +kernel, by decide +kernel⟩
abbrev s__law_words : Stmt := topS 32
theorem sc__law_words : FnScope ["pool", "bound", "letters", "first", "stride", "head", "tail", "turn", "spot"] ["pool", "bound"] (defScope s__law_words) := ⟨rfl, rfl, rfl, by decide +kernel, rfl, by decide +kernel, by decide +kernel⟩
abbrev s__law_tree : Stmt := topS 33
theorem sc__law_tree : FnScope ["pool", "words", "digits", "deep", "part"] ["pool", "words", "digits", "deep"] (defScope s__law_tree) := ⟨rfl, rfl, rfl, by decide +kernel, rfl, by decide +kernel, by decide +kernel⟩
abbrev s__law_tree_text : Stmt := topS 34
theorem sc__law_tree_text : FnScope ["tree", "near", "far", "yes", "no", "part"] ["tree"] (defScope s__law_tree_text) := ⟨rfl, rfl, rfl, by decide +kernel, rfl, by decide +kernel, by decide +kernel⟩
abbrev s__law_tree_deep : Stmt := topS 35
theorem sc__law_tree_deep : FnScope ["tree", "part"] ["tree"] (defScope s__law_tree_deep) := ⟨rfl, rfl, rfl, by decide +kernel, rfl, by decide +kernel, by decide +kernel⟩
abbrev s__law_tree_leaves : Stmt := topS 36
theorem sc__law_tree_leaves : FnScope ["tree", "found", "part"] ["tree"] (defScope s__law_tree_leaves) := ⟨rfl, rfl, rfl, by decide +kernel, rfl, by decide +kernel, by decide +kernel⟩
abbrev s__law_tree_words : Stmt := topS 37
theorem sc__law_tree_words : FnScope ["tree", "leaf"] ["tree"] (defScope s__law_tree_words) := ⟨rfl, rfl, rfl, by decide +kernel, rfl, by decide +kernel, by decide +kernel⟩
abbrev s__law_tree_digits : Stmt := topS 38
theorem sc__law_tree_digits : FnScope ["tree", "leaf"] ["tree"] (defScope s__law_tree_digits) := ⟨rfl, rfl, rfl, by decide +kernel, rfl, by decide +kernel, by decide +kernel⟩
abbrev s__law_kind_told : Stmt := topS 39
theorem sc__law_kind_told : FnScope ["tree"] ["tree"] (defScope s__law_kind_told) := ⟨rfl, rfl, rfl, by decide +kernel, rfl, by decide +kernel, by decide +kernel⟩
abbrev s__law_told : Stmt := topS 40
theorem sc__law_told : FnScope ["term", "parts", "part"] ["term"] (defScope s__law_told) := ⟨rfl, rfl, rfl, by decide +kernel, rfl, by decide +kernel, by decide +kernel⟩
abbrev s__law_due : Stmt := topS 41
theorem sc__law_due : FnScope ["tree", "parts", "found", "part"] ["tree"] (defScope s__law_due) := ⟨rfl, rfl, rfl, by decide +kernel, rfl, by decide +kernel, by decide +kernel⟩
abbrev s_law : Stmt := topS 42
theorem sc_law : FnScope ["script", "k", "pool", "words", "trees", "terms", "near", "tree", "one", "thing", "is_there", "far", "other", "turn"] ["script"] (defScope s_law) := ⟨rfl, rfl, rfl, by decide +kernel, rfl, by decide +kernel, by decide +kernel⟩
structure Ad where
  C_TiedError : Addr
  C_NoTerm : Addr
  i_NoTerm : Addr
  f_is_whole : Addr
  d_is_whole : FuncData
  f_is_number : Addr
  d_is_number : FuncData
  f_is_word : Addr
  d_is_word : FuncData
  f_is_digit : Addr
  d_is_digit : FuncData
  f_ascending_words : Addr
  d_ascending_words : FuncData
  f_ascending_numbers : Addr
  d_ascending_numbers : FuncData
  v_SIGNS : Addr
  f_word_at : Addr
  d_word_at : FuncData
  f_plan_at : Addr
  d_plan_at : FuncData
  f_depth_of : Addr
  d_depth_of : FuncData
  f_text_of : Addr
  d_text_of : FuncData
  f_leaves_of : Addr
  d_leaves_of : FuncData
  f_stands_in : Addr
  d_stands_in : FuncData
  f_plan_of : Addr
  d_plan_of : FuncData
  C_Term : Addr
  f_Term___init__ : Addr
  d_Term___init__ : FuncData
  f_Term_choice : Addr
  d_Term_choice : FuncData
  p_Term_choice : Addr
  f_Term___str__ : Addr
  d_Term___str__ : FuncData
  f_Term_depth : Addr
  d_Term_depth : FuncData
  p_Term_depth : Addr
  f_Term_kind : Addr
  d_Term_kind : FuncData
  p_Term_kind : Addr
  f_Term_variables : Addr
  d_Term_variables : FuncData
  f_Term_constants : Addr
  d_Term_constants : FuncData
  f_Term_parts : Addr
  d_Term_parts : FuncData
  f_Term___contains__ : Addr
  d_Term___contains__ : FuncData
  f_Term___len__ : Addr
  d_Term___len__ : FuncData
  f_Term___eq__ : Addr
  d_Term___eq__ : FuncData
  f_Term_within : Addr
  d_Term_within : FuncData
  f__law_pool : Addr
  d__law_pool : FuncData
  f__law_take : Addr
  d__law_take : FuncData
  f__law_one : Addr
  d__law_one : FuncData
  f__law_words : Addr
  d__law_words : FuncData
  f__law_tree : Addr
  d__law_tree : FuncData
  f__law_tree_text : Addr
  d__law_tree_text : FuncData
  f__law_tree_deep : Addr
  d__law_tree_deep : FuncData
  f__law_tree_leaves : Addr
  d__law_tree_leaves : FuncData
  f__law_tree_words : Addr
  d__law_tree_words : FuncData
  f__law_tree_digits : Addr
  d__law_tree_digits : FuncData
  f__law_kind_told : Addr
  d__law_kind_told : FuncData
  f__law_told : Addr
  d__law_told : FuncData
  f__law_due : Addr
  d__law_due : FuncData
  f_law : Addr
  d_law : FuncData
structure Tx (P : Program) (K : PySem.W.Frag) (mg : Str → Option Value) (a : Ad) : Prop where
  g_TiedError : mg "TiedError" = some (.ref a.C_TiedError)
  te_NoTerm : PySem.W.exmOne K (.ref a.C_NoTerm) (.ref a.C_NoTerm) = some true
  kb_NoTerm_TiedError : PySem.W.kitOne K (.ref a.C_NoTerm) (.ref a.C_TiedError) = some true
  e_NoTerm : Tied P K mg "NoTerm" "value" "NoTerm.__init__" a.C_NoTerm a.i_NoTerm
  v_LETTERS : ∃ t, mg "LETTERS" = some (.str "abcdefghijklmnopqrstuvwxyz" t)
  v_DIGITS : ∃ t, mg "DIGITS" = some (.str "0123456789" t)
  v_MOST_LETTERS : ∃ t, mg "MOST_LETTERS" = some (.int 8 t)
  is_whole : Df K mg "is_whole" s_is_whole ["value"] a.f_is_whole a.d_is_whole
  is_number : Df K mg "is_number" s_is_number ["value", "low", "high"] a.f_is_number a.d_is_number
  is_word : Df K mg "is_word" s_is_word ["value"] a.f_is_word a.d_is_word
  is_digit : Df K mg "is_digit" s_is_digit ["value"] a.f_is_digit a.d_is_digit
  ascending_words : Df K mg "ascending_words" s_ascending_words ["words"] a.f_ascending_words a.d_ascending_words
  ascending_numbers : Df K mg "ascending_numbers" s_ascending_numbers ["numbers"] a.f_ascending_numbers a.d_ascending_numbers
  v_MOST_DEPTH : ∃ t, mg "MOST_DEPTH" = some (.int 3 t)
  v_MOST_CONSTANT : ∃ t, mg "MOST_CONSTANT" = some (.int 9 t)
  v_SIGNS : mg "SIGNS" = some (.ref a.v_SIGNS)
  w_SIGNS : ∀ H : Hp, SqT K H a.v_SIGNS [.str "(", .str "=", .str "?", .str ":", .str ")"]
  word_at : Df K mg "word_at" s_word_at ["text", "at"] a.f_word_at a.d_word_at
  plan_at : Df K mg "plan_at" s_plan_at ["text", "at", "deep"] a.f_plan_at a.d_plan_at
  depth_of : Df K mg "depth_of" s_depth_of ["plan"] a.f_depth_of a.d_depth_of
  text_of : Df K mg "text_of" s_text_of ["plan"] a.f_text_of a.d_text_of
  leaves_of : Df K mg "leaves_of" s_leaves_of ["plan"] a.f_leaves_of a.d_leaves_of
  stands_in : Df K mg "stands_in" s_stands_in ["plan", "whole"] a.f_stands_in a.d_stands_in
  plan_of : Df K mg "plan_of" s_plan_of ["value"] a.f_plan_of a.d_plan_of
  g_Term : mg "Term" = some (.ref a.C_Term)
  c_Term : Cls K a.C_Term
  kp_Term : PySem.W.keepIn K (.ref a.C_Term) = true
  ty_Term : PySem.W.findIn K (.ref a.C_Term) "__class__" = some (some (.builtin "object.__class__"))
  mo_Term : PySem.W.mroIn K a.C_Term (.type "object") = some true
  kit_Term_NoneType : PySem.W.kitOne K (.type "NoneType") (.ref a.C_Term) = some false
  kit_Term_bool : PySem.W.kitOne K (.type "bool") (.ref a.C_Term) = some false
  kit_Term_int : PySem.W.kitOne K (.type "int") (.ref a.C_Term) = some false
  kit_Term_str : PySem.W.kitOne K (.type "str") (.ref a.C_Term) = some false
  kit_Term_list : PySem.W.kitOne K (.type "list") (.ref a.C_Term) = some false
  kit_Term_tuple : PySem.W.kitOne K (.type "tuple") (.ref a.C_Term) = some false
  kit_Term_dict : PySem.W.kitOne K (.type "dict") (.ref a.C_Term) = some false
  kit_Term : PySem.W.kitOne K (.ref a.C_Term) (.ref a.C_Term) = some true
  Term___init__ : Fun K "__init__" "Term.__init__" s_Term___init__ a.f_Term___init__ a.d_Term___init__
  b_Term___init__ : Binds K a.d_Term___init__ ["self", "value"] []
  mk_Term : Mk K a.C_Term a.f_Term___init__
  Term_choice : Fun K "choice" "Term.choice" s_Term_choice a.f_Term_choice a.d_Term_choice
  b_Term_choice : Binds K a.d_Term_choice ["one", "other", "same", "unlike"] []
  m_Term_choice : CSta K a.C_Term (.type "type") "choice" a.p_Term_choice a.f_Term_choice
  Term___str__ : Fun K "__str__" "Term.__str__" s_Term___str__ a.f_Term___str__ a.d_Term___str__
  b_Term___str__ : Binds K a.d_Term___str__ ["self"] []
  m_Term___str__ : Meth K a.C_Term "__str__" a.f_Term___str__
  fm_Term : PySem.W.findIn K (.ref a.C_Term) "__format__" = some (some (.builtin "object.__format__"))
  Term_depth : Fun K "depth" "Term.depth" s_Term_depth a.f_Term_depth a.d_Term_depth
  b_Term_depth : Binds K a.d_Term_depth ["self"] []
  p_Term_depth : PropOf K a.C_Term "depth" a.p_Term_depth a.f_Term_depth
  Term_kind : Fun K "kind" "Term.kind" s_Term_kind a.f_Term_kind a.d_Term_kind
  b_Term_kind : Binds K a.d_Term_kind ["self"] []
  p_Term_kind : PropOf K a.C_Term "kind" a.p_Term_kind a.f_Term_kind
  Term_variables : Fun K "variables" "Term.variables" s_Term_variables a.f_Term_variables a.d_Term_variables
  b_Term_variables : Binds K a.d_Term_variables ["self"] []
  m_Term_variables : Meth K a.C_Term "variables" a.f_Term_variables
  Term_constants : Fun K "constants" "Term.constants" s_Term_constants a.f_Term_constants a.d_Term_constants
  b_Term_constants : Binds K a.d_Term_constants ["self"] []
  m_Term_constants : Meth K a.C_Term "constants" a.f_Term_constants
  Term_parts : Fun K "parts" "Term.parts" s_Term_parts a.f_Term_parts a.d_Term_parts
  b_Term_parts : Binds K a.d_Term_parts ["self"] []
  m_Term_parts : Meth K a.C_Term "parts" a.f_Term_parts
  Term___contains__ : Fun K "__contains__" "Term.__contains__" s_Term___contains__ a.f_Term___contains__ a.d_Term___contains__
  b_Term___contains__ : Binds K a.d_Term___contains__ ["self", "value"] []
  m_Term___contains__ : Meth K a.C_Term "__contains__" a.f_Term___contains__
  Term___len__ : Fun K "__len__" "Term.__len__" s_Term___len__ a.f_Term___len__ a.d_Term___len__
  b_Term___len__ : Binds K a.d_Term___len__ ["self"] []
  m_Term___len__ : Meth K a.C_Term "__len__" a.f_Term___len__
  Term___eq__ : Fun K "__eq__" "Term.__eq__" s_Term___eq__ a.f_Term___eq__ a.d_Term___eq__
  b_Term___eq__ : Binds K a.d_Term___eq__ ["self", "other"] []
  m_Term___eq__ : Meth K a.C_Term "__eq__" a.f_Term___eq__
  nx_Term_int : PySem.W.notFirst K a.C_Term (.type "int") = true
  nx_Term_tuple : PySem.W.notFirst K a.C_Term (.type "tuple") = true
  nx_Term_NoneType : PySem.W.notFirst K a.C_Term (.type "NoneType") = true
  nx_Term_bool : PySem.W.notFirst K a.C_Term (.type "bool") = true
  nx_Term_list : PySem.W.notFirst K a.C_Term (.type "list") = true
  nx_Term_dict : PySem.W.notFirst K a.C_Term (.type "dict") = true
  nf_Term : PySem.W.notFirst K a.C_Term (.type "str") = true
  ne_Term : PySem.W.findIn K (.ref a.C_Term) "__ne__" = some (some (.builtin "object.__ne__"))
  Term_within : Fun K "within" "Term.within" s_Term_within a.f_Term_within a.d_Term_within
  b_Term_within : Binds K a.d_Term_within ["self", "other"] []
  m_Term_within : Meth K a.C_Term "within" a.f_Term_within
  no_Term_tree : NoAttr K a.C_Term "tree"
  _law_pool : Df K mg "_law_pool" s__law_pool ["script", "k"] a.f__law_pool a.d__law_pool
  _law_take : Df K mg "_law_take" s__law_take ["pool", "bound"] a.f__law_take a.d__law_take
  _law_one : Df K mg "_law_one" s__law_one ["pool", "things"] a.f__law_one a.d__law_one
  _law_words : Df K mg "_law_words" s__law_words ["pool", "bound"] a.f__law_words a.d__law_words
  _law_tree : Df K mg "_law_tree" s__law_tree ["pool", "words", "digits", "deep"] a.f__law_tree a.d__law_tree
  _law_tree_text : Df K mg "_law_tree_text" s__law_tree_text ["tree"] a.f__law_tree_text a.d__law_tree_text
  _law_tree_deep : Df K mg "_law_tree_deep" s__law_tree_deep ["tree"] a.f__law_tree_deep a.d__law_tree_deep
  _law_tree_leaves : Df K mg "_law_tree_leaves" s__law_tree_leaves ["tree"] a.f__law_tree_leaves a.d__law_tree_leaves
  _law_tree_words : Df K mg "_law_tree_words" s__law_tree_words ["tree"] a.f__law_tree_words a.d__law_tree_words
  _law_tree_digits : Df K mg "_law_tree_digits" s__law_tree_digits ["tree"] a.f__law_tree_digits a.d__law_tree_digits
  _law_kind_told : Df K mg "_law_kind_told" s__law_kind_told ["tree"] a.f__law_kind_told a.d__law_kind_told
  _law_told : Df K mg "_law_told" s__law_told ["term"] a.f__law_told a.d__law_told
  _law_due : Df K mg "_law_due" s__law_due ["tree"] a.f__law_due a.d__law_due
  law : Df K mg "law" s_law ["script"] a.f_law a.d_law
  blaw : ∀ (s : Shared) (u : Value), BindsTo s a.d_law ⟨[u], []⟩ [("script", u)]
  bi : Bi mg
  tn : PySem.W.specialIn K (.builtin "object.__class__") "__get__" = some (some (.builtin "getset_descriptor.__get__"))
  tt : PySem.W.takesIn K (.builtin "object.__class__") = some true
theorem tx_mk {P : Program} {K : PySem.W.Frag} {h : Heap} {mg : Str → Option Value} (X : K.In h) (G : h.Ns mainGlobals mg)
    {C_TiedError : Addr}
    {C_NoTerm N_NoTerm i_NoTerm : Addr} {nm_NoTerm q_NoTerm : Str} {bs_NoTerm bm_NoTerm su_NoTerm : List Value} {sn_NoTerm : List Str} {ab_NoTerm : Bool} {co_NoTerm : Option Bool} {dd_NoTerm : Option Addr} {k0_NoTerm k1_NoTerm k2_NoTerm k3_NoTerm k5_NoTerm : Option Value} {oc_NoTerm kV_NoTerm dc_NoTerm pm_NoTerm ct_NoTerm : Value} {od_NoTerm an_NoTerm : Option Addr} {cda_NoTerm cc_NoTerm : Addr} {sl_NoTerm : Array (Option Value)} {m_NoTerm : Str} {j_NoTerm : Nat} {p1_NoTerm p2_NoTerm q0_NoTerm q1_NoTerm q2_NoTerm q3_NoTerm q4_NoTerm q5_NoTerm r1_NoTerm r2_NoTerm r3_NoTerm r4_NoTerm : Pos} {ccl_NoTerm cl_NoTerm : Value} {cdd_NoTerm cld_NoTerm : Option Addr} {vs_NoTerm : Array Value} {ccs_NoTerm csl_NoTerm : Array (Option Value)} {file_NoTerm : Str} {tf_NoTerm : Tok}
    {t_LETTERS : Tok}
    {t_DIGITS : Tok}
    {t_MOST_LETTERS : Tok}
    {f_is_whole : Addr} {od_is_whole an_is_whole : Option Addr} {sl_is_whole : Array (Option Value)} {oc_is_whole kV_is_whole dc_is_whole pm_is_whole cd_is_whole ct_is_whole : Value}
    {f_is_number : Addr} {od_is_number an_is_number : Option Addr} {sl_is_number : Array (Option Value)} {oc_is_number kV_is_number dc_is_number pm_is_number cd_is_number ct_is_number : Value}
    {f_is_word : Addr} {od_is_word an_is_word : Option Addr} {sl_is_word : Array (Option Value)} {oc_is_word kV_is_word dc_is_word pm_is_word cd_is_word ct_is_word : Value}
    {f_is_digit : Addr} {od_is_digit an_is_digit : Option Addr} {sl_is_digit : Array (Option Value)} {oc_is_digit kV_is_digit dc_is_digit pm_is_digit cd_is_digit ct_is_digit : Value}
    {f_ascending_words : Addr} {od_ascending_words an_ascending_words : Option Addr} {sl_ascending_words : Array (Option Value)} {oc_ascending_words kV_ascending_words dc_ascending_words pm_ascending_words cd_ascending_words ct_ascending_words : Value}
    {f_ascending_numbers : Addr} {od_ascending_numbers an_ascending_numbers : Option Addr} {sl_ascending_numbers : Array (Option Value)} {oc_ascending_numbers kV_ascending_numbers dc_ascending_numbers pm_ascending_numbers cd_ascending_numbers ct_ascending_numbers : Value}
    {t_MOST_DEPTH : Tok}
    {t_MOST_CONSTANT : Tok}
    {v_SIGNS : Addr} {t0_SIGNS t1_SIGNS t2_SIGNS t3_SIGNS t4_SIGNS : Tok} {dd_SIGNS : Option Addr} {n_SIGNS : Nat} {sl_SIGNS : Array (Option Value)}
    {f_word_at : Addr} {od_word_at an_word_at : Option Addr} {sl_word_at : Array (Option Value)} {oc_word_at kV_word_at dc_word_at pm_word_at cd_word_at ct_word_at : Value}
    {f_plan_at : Addr} {od_plan_at an_plan_at : Option Addr} {sl_plan_at : Array (Option Value)} {oc_plan_at kV_plan_at dc_plan_at pm_plan_at cd_plan_at ct_plan_at : Value}
    {f_depth_of : Addr} {od_depth_of an_depth_of : Option Addr} {sl_depth_of : Array (Option Value)} {oc_depth_of kV_depth_of dc_depth_of pm_depth_of cd_depth_of ct_depth_of : Value}
    {f_text_of : Addr} {od_text_of an_text_of : Option Addr} {sl_text_of : Array (Option Value)} {oc_text_of kV_text_of dc_text_of pm_text_of cd_text_of ct_text_of : Value}
    {f_leaves_of : Addr} {od_leaves_of an_leaves_of : Option Addr} {sl_leaves_of : Array (Option Value)} {oc_leaves_of kV_leaves_of dc_leaves_of pm_leaves_of cd_leaves_of ct_leaves_of : Value}
    {f_stands_in : Addr} {od_stands_in an_stands_in : Option Addr} {sl_stands_in : Array (Option Value)} {oc_stands_in kV_stands_in dc_stands_in pm_stands_in cd_stands_in ct_stands_in : Value}
    {f_plan_of : Addr} {od_plan_of an_plan_of : Option Addr} {sl_plan_of : Array (Option Value)} {oc_plan_of kV_plan_of dc_plan_of pm_plan_of cd_plan_of ct_plan_of : Value}
    {C_Term : Addr}
    {f_Term___init__ : Addr} {od_Term___init__ an_Term___init__ : Option Addr} {sl_Term___init__ : Array (Option Value)} {oc_Term___init__ kV_Term___init__ dc_Term___init__ pm_Term___init__ cd_Term___init__ ct_Term___init__ : Value}
    {f_Term_choice : Addr} {od_Term_choice an_Term_choice : Option Addr} {sl_Term_choice : Array (Option Value)} {oc_Term_choice kV_Term_choice dc_Term_choice pm_Term_choice cd_Term_choice ct_Term_choice : Value}
    {p_Term_choice : Addr} {re_Term_choice : List Value}
    {f_Term___str__ : Addr} {od_Term___str__ an_Term___str__ : Option Addr} {sl_Term___str__ : Array (Option Value)} {oc_Term___str__ kV_Term___str__ dc_Term___str__ pm_Term___str__ cd_Term___str__ ct_Term___str__ : Value}
    {f_Term_depth : Addr} {od_Term_depth an_Term_depth : Option Addr} {sl_Term_depth : Array (Option Value)} {oc_Term_depth kV_Term_depth dc_Term_depth pm_Term_depth cd_Term_depth ct_Term_depth : Value}
    {p_Term_depth : Addr} {re_Term_depth : List Value}
    {f_Term_kind : Addr} {od_Term_kind an_Term_kind : Option Addr} {sl_Term_kind : Array (Option Value)} {oc_Term_kind kV_Term_kind dc_Term_kind pm_Term_kind cd_Term_kind ct_Term_kind : Value}
    {p_Term_kind : Addr} {re_Term_kind : List Value}
    {f_Term_variables : Addr} {od_Term_variables an_Term_variables : Option Addr} {sl_Term_variables : Array (Option Value)} {oc_Term_variables kV_Term_variables dc_Term_variables pm_Term_variables cd_Term_variables ct_Term_variables : Value}
    {f_Term_constants : Addr} {od_Term_constants an_Term_constants : Option Addr} {sl_Term_constants : Array (Option Value)} {oc_Term_constants kV_Term_constants dc_Term_constants pm_Term_constants cd_Term_constants ct_Term_constants : Value}
    {f_Term_parts : Addr} {od_Term_parts an_Term_parts : Option Addr} {sl_Term_parts : Array (Option Value)} {oc_Term_parts kV_Term_parts dc_Term_parts pm_Term_parts cd_Term_parts ct_Term_parts : Value}
    {f_Term___contains__ : Addr} {od_Term___contains__ an_Term___contains__ : Option Addr} {sl_Term___contains__ : Array (Option Value)} {oc_Term___contains__ kV_Term___contains__ dc_Term___contains__ pm_Term___contains__ cd_Term___contains__ ct_Term___contains__ : Value}
    {f_Term___len__ : Addr} {od_Term___len__ an_Term___len__ : Option Addr} {sl_Term___len__ : Array (Option Value)} {oc_Term___len__ kV_Term___len__ dc_Term___len__ pm_Term___len__ cd_Term___len__ ct_Term___len__ : Value}
    {f_Term___eq__ : Addr} {od_Term___eq__ an_Term___eq__ : Option Addr} {sl_Term___eq__ : Array (Option Value)} {oc_Term___eq__ kV_Term___eq__ dc_Term___eq__ pm_Term___eq__ cd_Term___eq__ ct_Term___eq__ : Value}
    {f_Term_within : Addr} {od_Term_within an_Term_within : Option Addr} {sl_Term_within : Array (Option Value)} {oc_Term_within kV_Term_within dc_Term_within pm_Term_within cd_Term_within ct_Term_within : Value}
    {f__law_pool : Addr} {od__law_pool an__law_pool : Option Addr} {sl__law_pool : Array (Option Value)} {oc__law_pool kV__law_pool dc__law_pool pm__law_pool cd__law_pool ct__law_pool : Value}
    {f__law_take : Addr} {od__law_take an__law_take : Option Addr} {sl__law_take : Array (Option Value)} {oc__law_take kV__law_take dc__law_take pm__law_take cd__law_take ct__law_take : Value}
    {f__law_one : Addr} {od__law_one an__law_one : Option Addr} {sl__law_one : Array (Option Value)} {oc__law_one kV__law_one dc__law_one pm__law_one cd__law_one ct__law_one : Value}
    {f__law_words : Addr} {od__law_words an__law_words : Option Addr} {sl__law_words : Array (Option Value)} {oc__law_words kV__law_words dc__law_words pm__law_words cd__law_words ct__law_words : Value}
    {f__law_tree : Addr} {od__law_tree an__law_tree : Option Addr} {sl__law_tree : Array (Option Value)} {oc__law_tree kV__law_tree dc__law_tree pm__law_tree cd__law_tree ct__law_tree : Value}
    {f__law_tree_text : Addr} {od__law_tree_text an__law_tree_text : Option Addr} {sl__law_tree_text : Array (Option Value)} {oc__law_tree_text kV__law_tree_text dc__law_tree_text pm__law_tree_text cd__law_tree_text ct__law_tree_text : Value}
    {f__law_tree_deep : Addr} {od__law_tree_deep an__law_tree_deep : Option Addr} {sl__law_tree_deep : Array (Option Value)} {oc__law_tree_deep kV__law_tree_deep dc__law_tree_deep pm__law_tree_deep cd__law_tree_deep ct__law_tree_deep : Value}
    {f__law_tree_leaves : Addr} {od__law_tree_leaves an__law_tree_leaves : Option Addr} {sl__law_tree_leaves : Array (Option Value)} {oc__law_tree_leaves kV__law_tree_leaves dc__law_tree_leaves pm__law_tree_leaves cd__law_tree_leaves ct__law_tree_leaves : Value}
    {f__law_tree_words : Addr} {od__law_tree_words an__law_tree_words : Option Addr} {sl__law_tree_words : Array (Option Value)} {oc__law_tree_words kV__law_tree_words dc__law_tree_words pm__law_tree_words cd__law_tree_words ct__law_tree_words : Value}
    {f__law_tree_digits : Addr} {od__law_tree_digits an__law_tree_digits : Option Addr} {sl__law_tree_digits : Array (Option Value)} {oc__law_tree_digits kV__law_tree_digits dc__law_tree_digits pm__law_tree_digits cd__law_tree_digits ct__law_tree_digits : Value}
    {f__law_kind_told : Addr} {od__law_kind_told an__law_kind_told : Option Addr} {sl__law_kind_told : Array (Option Value)} {oc__law_kind_told kV__law_kind_told dc__law_kind_told pm__law_kind_told cd__law_kind_told ct__law_kind_told : Value}
    {f__law_told : Addr} {od__law_told an__law_told : Option Addr} {sl__law_told : Array (Option Value)} {oc__law_told kV__law_told dc__law_told pm__law_told cd__law_told ct__law_told : Value}
    {f__law_due : Addr} {od__law_due an__law_due : Option Addr} {sl__law_due : Array (Option Value)} {oc__law_due kV__law_due dc__law_due pm__law_due cd__law_due ct__law_due : Value}
    {f_law : Addr} {od_law an_law : Option Addr} {sl_law : Array (Option Value)} {oc_law kV_law dc_law pm_law cd_law ct_law : Value}
    (h_g_TiedError : PySem.W.nsIn K mainGlobals "TiedError" = some (some (.ref C_TiedError)))
    (h_g_NoTerm : PySem.W.nsIn K mainGlobals "NoTerm" = some (some (.ref C_NoTerm)))
    (h_l_NoTerm : K.lookup C_NoTerm = some (excClassObj nm_NoTerm q_NoTerm C_NoTerm N_NoTerm bs_NoTerm bm_NoTerm true sn_NoTerm su_NoTerm ab_NoTerm co_NoTerm dd_NoTerm k0_NoTerm k1_NoTerm k2_NoTerm k3_NoTerm k5_NoTerm "ValueError.__new__"))
    (h_r_NoTerm : PySem.HandSPX.refsVE bm_NoTerm = true)
    (h_s_NoTerm : PySem.W.findIn K (.ref C_NoTerm) "__setattr__" = some (some (.builtin "object.__setattr__")))
    (h_n_NoTerm : PySem.W.findIn K (.ref C_NoTerm) "value" = some none)
    (h_i_NoTerm : PySem.W.findIn K (.ref C_NoTerm) "__init__" = some (some (.ref i_NoTerm)))
    (h_t_NoTerm : PySem.W.typeIn K (.ref i_NoTerm) = some (.type "function"))
    (h_k_NoTerm : PySem.W.keepIn K (.ref C_NoTerm) = true)
    (h_x_NoTerm : PySem.W.subIn K (.ref C_NoTerm) (.type "BaseException") = some true)
    (h_v_NoTerm : PySem.W.subIn K (.ref C_NoTerm) (.type "ValueError") = some true)
    (h_y_NoTerm : PySem.W.typeIn K (.ref C_NoTerm) = some (.type "type"))
    (h_xf_NoTerm : xfB K C_NoTerm = true)
    (h_fn_NoTerm : K.lookup i_NoTerm = some ⟨oc_NoTerm, od_NoTerm, .func (PySem.W.fnX "__init__" "NoTerm.__init__" (xiA "value" p1_NoTerm p2_NoTerm) (xiB "value" m_NoTerm j_NoTerm q0_NoTerm q1_NoTerm q2_NoTerm q3_NoTerm q4_NoTerm q5_NoTerm r1_NoTerm r2_NoTerm r3_NoTerm r4_NoTerm) (xiS "value") [("__class__", cc_NoTerm)] .none kV_NoTerm dc_NoTerm pm_NoTerm an_NoTerm (.ref cda_NoTerm) ct_NoTerm), sl_NoTerm⟩)
    (h_cd_NoTerm : PySem.W.codeIn K (.ref cda_NoTerm) "NoTerm.__init__" = true)
    (h_lc_NoTerm : K.lookup cda_NoTerm = some ⟨ccl_NoTerm, cdd_NoTerm, .fields vs_NoTerm, ccs_NoTerm⟩)
    (h_v2_NoTerm : vs_NoTerm[2]? = some (.str file_NoTerm tf_NoTerm))
    (h_fi_NoTerm : ((P.main.file : Str) == file_NoTerm) = true)
    (h_ln_NoTerm : (q2_NoTerm.endLine == q4_NoTerm.line) = true)
    (h_ce_NoTerm : K.lookup cc_NoTerm = some ⟨cl_NoTerm, cld_NoTerm, .cell (some (.ref C_NoTerm)), csl_NoTerm⟩)
    (h_se_NoTerm : PySem.W.mroIn K C_NoTerm (.ref C_NoTerm) = some true)
    (h_up_NoTerm : PySem.W.ks_superIn K C_NoTerm C_NoTerm "__init__" = some (some (.builtin "ValueError.__init__")))
    (h_te_NoTerm : PySem.W.exmOne K (.ref C_NoTerm) (.ref C_NoTerm) = some true)
    (h_kb_NoTerm_TiedError : PySem.W.kitOne K (.ref C_NoTerm) (.ref C_TiedError) = some true)
    (h_v_LETTERS : PySem.W.nsIn K mainGlobals "LETTERS" = some (some (.str "abcdefghijklmnopqrstuvwxyz" t_LETTERS)))
    (h_v_DIGITS : PySem.W.nsIn K mainGlobals "DIGITS" = some (some (.str "0123456789" t_DIGITS)))
    (h_v_MOST_LETTERS : PySem.W.nsIn K mainGlobals "MOST_LETTERS" = some (some (.int 8 t_MOST_LETTERS)))
    (h_a_is_whole : PySem.W.nsIn K mainGlobals "is_whole" = some (some (.ref f_is_whole)))
    (h_l_is_whole : K.lookup f_is_whole = some ⟨oc_is_whole, od_is_whole, .func (PySem.W.fnOf "is_whole" "is_whole" (defArgs s_is_whole) (defBody s_is_whole) (defScope s_is_whole) .none kV_is_whole dc_is_whole pm_is_whole an_is_whole cd_is_whole ct_is_whole), sl_is_whole⟩)
    (h_c_is_whole : PySem.W.codeIn K cd_is_whole "is_whole" = true)
    (h_k_is_whole : PySem.W.keepIn K (.ref f_is_whole) = true)
    (h_a_is_number : PySem.W.nsIn K mainGlobals "is_number" = some (some (.ref f_is_number)))
    (h_l_is_number : K.lookup f_is_number = some ⟨oc_is_number, od_is_number, .func (PySem.W.fnOf "is_number" "is_number" (defArgs s_is_number) (defBody s_is_number) (defScope s_is_number) .none kV_is_number dc_is_number pm_is_number an_is_number cd_is_number ct_is_number), sl_is_number⟩)
    (h_c_is_number : PySem.W.codeIn K cd_is_number "is_number" = true)
    (h_k_is_number : PySem.W.keepIn K (.ref f_is_number) = true)
    (h_a_is_word : PySem.W.nsIn K mainGlobals "is_word" = some (some (.ref f_is_word)))
    (h_l_is_word : K.lookup f_is_word = some ⟨oc_is_word, od_is_word, .func (PySem.W.fnOf "is_word" "is_word" (defArgs s_is_word) (defBody s_is_word) (defScope s_is_word) .none kV_is_word dc_is_word pm_is_word an_is_word cd_is_word ct_is_word), sl_is_word⟩)
    (h_c_is_word : PySem.W.codeIn K cd_is_word "is_word" = true)
    (h_k_is_word : PySem.W.keepIn K (.ref f_is_word) = true)
    (h_a_is_digit : PySem.W.nsIn K mainGlobals "is_digit" = some (some (.ref f_is_digit)))
    (h_l_is_digit : K.lookup f_is_digit = some ⟨oc_is_digit, od_is_digit, .func (PySem.W.fnOf "is_digit" "is_digit" (defArgs s_is_digit) (defBody s_is_digit) (defScope s_is_digit) .none kV_is_digit dc_is_digit pm_is_digit an_is_digit cd_is_digit ct_is_digit), sl_is_digit⟩)
    (h_c_is_digit : PySem.W.codeIn K cd_is_digit "is_digit" = true)
    (h_k_is_digit : PySem.W.keepIn K (.ref f_is_digit) = true)
    (h_a_ascending_words : PySem.W.nsIn K mainGlobals "ascending_words" = some (some (.ref f_ascending_words)))
    (h_l_ascending_words : K.lookup f_ascending_words = some ⟨oc_ascending_words, od_ascending_words, .func (PySem.W.fnOf "ascending_words" "ascending_words" (defArgs s_ascending_words) (defBody s_ascending_words) (defScope s_ascending_words) .none kV_ascending_words dc_ascending_words pm_ascending_words an_ascending_words cd_ascending_words ct_ascending_words), sl_ascending_words⟩)
    (h_c_ascending_words : PySem.W.codeIn K cd_ascending_words "ascending_words" = true)
    (h_k_ascending_words : PySem.W.keepIn K (.ref f_ascending_words) = true)
    (h_a_ascending_numbers : PySem.W.nsIn K mainGlobals "ascending_numbers" = some (some (.ref f_ascending_numbers)))
    (h_l_ascending_numbers : K.lookup f_ascending_numbers = some ⟨oc_ascending_numbers, od_ascending_numbers, .func (PySem.W.fnOf "ascending_numbers" "ascending_numbers" (defArgs s_ascending_numbers) (defBody s_ascending_numbers) (defScope s_ascending_numbers) .none kV_ascending_numbers dc_ascending_numbers pm_ascending_numbers an_ascending_numbers cd_ascending_numbers ct_ascending_numbers), sl_ascending_numbers⟩)
    (h_c_ascending_numbers : PySem.W.codeIn K cd_ascending_numbers "ascending_numbers" = true)
    (h_k_ascending_numbers : PySem.W.keepIn K (.ref f_ascending_numbers) = true)
    (h_v_MOST_DEPTH : PySem.W.nsIn K mainGlobals "MOST_DEPTH" = some (some (.int 3 t_MOST_DEPTH)))
    (h_v_MOST_CONSTANT : PySem.W.nsIn K mainGlobals "MOST_CONSTANT" = some (some (.int 9 t_MOST_CONSTANT)))
    (h_v_SIGNS : PySem.W.nsIn K mainGlobals "SIGNS" = some (some (.ref v_SIGNS)))
    (h_w_SIGNS : K.lookup v_SIGNS = some ⟨.type "tuple", dd_SIGNS, .seq #[.str "(" t0_SIGNS, .str "=" t1_SIGNS, .str "?" t2_SIGNS, .str ":" t3_SIGNS, .str ")" t4_SIGNS] n_SIGNS, sl_SIGNS⟩)
    (h_a_word_at : PySem.W.nsIn K mainGlobals "word_at" = some (some (.ref f_word_at)))
    (h_l_word_at : K.lookup f_word_at = some ⟨oc_word_at, od_word_at, .func (PySem.W.fnOf "word_at" "word_at" (defArgs s_word_at) (defBody s_word_at) (defScope s_word_at) .none kV_word_at dc_word_at pm_word_at an_word_at cd_word_at ct_word_at), sl_word_at⟩)
    (h_c_word_at : PySem.W.codeIn K cd_word_at "word_at" = true)
    (h_k_word_at : PySem.W.keepIn K (.ref f_word_at) = true)
    (h_a_plan_at : PySem.W.nsIn K mainGlobals "plan_at" = some (some (.ref f_plan_at)))
    (h_l_plan_at : K.lookup f_plan_at = some ⟨oc_plan_at, od_plan_at, .func (PySem.W.fnOf "plan_at" "plan_at" (defArgs s_plan_at) (defBody s_plan_at) (defScope s_plan_at) .none kV_plan_at dc_plan_at pm_plan_at an_plan_at cd_plan_at ct_plan_at), sl_plan_at⟩)
    (h_c_plan_at : PySem.W.codeIn K cd_plan_at "plan_at" = true)
    (h_k_plan_at : PySem.W.keepIn K (.ref f_plan_at) = true)
    (h_a_depth_of : PySem.W.nsIn K mainGlobals "depth_of" = some (some (.ref f_depth_of)))
    (h_l_depth_of : K.lookup f_depth_of = some ⟨oc_depth_of, od_depth_of, .func (PySem.W.fnOf "depth_of" "depth_of" (defArgs s_depth_of) (defBody s_depth_of) (defScope s_depth_of) .none kV_depth_of dc_depth_of pm_depth_of an_depth_of cd_depth_of ct_depth_of), sl_depth_of⟩)
    (h_c_depth_of : PySem.W.codeIn K cd_depth_of "depth_of" = true)
    (h_k_depth_of : PySem.W.keepIn K (.ref f_depth_of) = true)
    (h_a_text_of : PySem.W.nsIn K mainGlobals "text_of" = some (some (.ref f_text_of)))
    (h_l_text_of : K.lookup f_text_of = some ⟨oc_text_of, od_text_of, .func (PySem.W.fnOf "text_of" "text_of" (defArgs s_text_of) (defBody s_text_of) (defScope s_text_of) .none kV_text_of dc_text_of pm_text_of an_text_of cd_text_of ct_text_of), sl_text_of⟩)
    (h_c_text_of : PySem.W.codeIn K cd_text_of "text_of" = true)
    (h_k_text_of : PySem.W.keepIn K (.ref f_text_of) = true)
    (h_a_leaves_of : PySem.W.nsIn K mainGlobals "leaves_of" = some (some (.ref f_leaves_of)))
    (h_l_leaves_of : K.lookup f_leaves_of = some ⟨oc_leaves_of, od_leaves_of, .func (PySem.W.fnOf "leaves_of" "leaves_of" (defArgs s_leaves_of) (defBody s_leaves_of) (defScope s_leaves_of) .none kV_leaves_of dc_leaves_of pm_leaves_of an_leaves_of cd_leaves_of ct_leaves_of), sl_leaves_of⟩)
    (h_c_leaves_of : PySem.W.codeIn K cd_leaves_of "leaves_of" = true)
    (h_k_leaves_of : PySem.W.keepIn K (.ref f_leaves_of) = true)
    (h_a_stands_in : PySem.W.nsIn K mainGlobals "stands_in" = some (some (.ref f_stands_in)))
    (h_l_stands_in : K.lookup f_stands_in = some ⟨oc_stands_in, od_stands_in, .func (PySem.W.fnOf "stands_in" "stands_in" (defArgs s_stands_in) (defBody s_stands_in) (defScope s_stands_in) .none kV_stands_in dc_stands_in pm_stands_in an_stands_in cd_stands_in ct_stands_in), sl_stands_in⟩)
    (h_c_stands_in : PySem.W.codeIn K cd_stands_in "stands_in" = true)
    (h_k_stands_in : PySem.W.keepIn K (.ref f_stands_in) = true)
    (h_a_plan_of : PySem.W.nsIn K mainGlobals "plan_of" = some (some (.ref f_plan_of)))
    (h_l_plan_of : K.lookup f_plan_of = some ⟨oc_plan_of, od_plan_of, .func (PySem.W.fnOf "plan_of" "plan_of" (defArgs s_plan_of) (defBody s_plan_of) (defScope s_plan_of) .none kV_plan_of dc_plan_of pm_plan_of an_plan_of cd_plan_of ct_plan_of), sl_plan_of⟩)
    (h_c_plan_of : PySem.W.codeIn K cd_plan_of "plan_of" = true)
    (h_k_plan_of : PySem.W.keepIn K (.ref f_plan_of) = true)
    (h_g_Term : PySem.W.nsIn K mainGlobals "Term" = some (some (.ref C_Term)))
    (h_pg_Term : PySem.W.plainGet K C_Term Str.empty = true)
    (h_hd_Term : PySem.W.hasDictIn K C_Term = true)
    (h_po_Term : PySem.W.plainOver K C_Term = true)
    (h_sa_Term : PySem.W.findIn K (.ref C_Term) "__setattr__" = some (some (.builtin "object.__setattr__")))
    (h_kp_Term : PySem.W.keepIn K (.ref C_Term) = true)
    (h_ty_Term : PySem.W.findIn K (.ref C_Term) "__class__" = some (some (.builtin "object.__class__")))
    (h_mo_Term : PySem.W.mroIn K C_Term (.type "object") = some true)
    (h_kit_Term_NoneType : PySem.W.kitOne K (.type "NoneType") (.ref C_Term) = some false)
    (h_kit_Term_bool : PySem.W.kitOne K (.type "bool") (.ref C_Term) = some false)
    (h_kit_Term_int : PySem.W.kitOne K (.type "int") (.ref C_Term) = some false)
    (h_kit_Term_str : PySem.W.kitOne K (.type "str") (.ref C_Term) = some false)
    (h_kit_Term_list : PySem.W.kitOne K (.type "list") (.ref C_Term) = some false)
    (h_kit_Term_tuple : PySem.W.kitOne K (.type "tuple") (.ref C_Term) = some false)
    (h_kit_Term_dict : PySem.W.kitOne K (.type "dict") (.ref C_Term) = some false)
    (h_kit_Term : PySem.W.kitOne K (.ref C_Term) (.ref C_Term) = some true)
    (h_l_Term___init__ : K.lookup f_Term___init__ = some ⟨oc_Term___init__, od_Term___init__, .func (PySem.W.fnOf "__init__" "Term.__init__" (defArgs s_Term___init__) (defBody s_Term___init__) (defScope s_Term___init__) .none kV_Term___init__ dc_Term___init__ pm_Term___init__ an_Term___init__ cd_Term___init__ ct_Term___init__), sl_Term___init__⟩)
    (h_c_Term___init__ : PySem.W.codeIn K cd_Term___init__ "Term.__init__" = true)
    (h_k_Term___init__ : PySem.W.keepIn K (.ref f_Term___init__) = true)
    (h_a_Term___init__ : PySem.W.findIn K (.ref C_Term) "__init__" = some (some (.ref f_Term___init__)))
    (h_i_Term___init__ : PySem.W.isFn K (.ref f_Term___init__) = true)
    (h_mk_Term : PySem.W.makesIn K C_Term = true)
    (h_l_Term_choice : K.lookup f_Term_choice = some ⟨oc_Term_choice, od_Term_choice, .func (PySem.W.fnOf "choice" "Term.choice" (defArgs s_Term_choice) (defBody s_Term_choice) (defScope s_Term_choice) .none kV_Term_choice dc_Term_choice pm_Term_choice an_Term_choice cd_Term_choice ct_Term_choice), sl_Term_choice⟩)
    (h_c_Term_choice : PySem.W.codeIn K cd_Term_choice "Term.choice" = true)
    (h_k_Term_choice : PySem.W.keepIn K (.ref f_Term_choice) = true)
    (h_r1_Term_choice : PySem.W.readsIn K C_Term (.type "type") = true)
    (h_r2_Term_choice : PySem.W.specialIn K (.ref C_Term) "__getattribute__" = some (some (.builtin "type.__getattribute__")))
    (h_r3_Term_choice : PySem.W.findCls K (.ref C_Term) (.type "type") "choice" = some (.get (.builtin "staticmethod.__get__") (.ref p_Term_choice) .none (.ref C_Term)))
    (h_r4_Term_choice : PySem.W.recIn K p_Term_choice "staticmethod" = some (.ref f_Term_choice :: re_Term_choice))
    (h_l_Term___str__ : K.lookup f_Term___str__ = some ⟨oc_Term___str__, od_Term___str__, .func (PySem.W.fnOf "__str__" "Term.__str__" (defArgs s_Term___str__) (defBody s_Term___str__) (defScope s_Term___str__) .none kV_Term___str__ dc_Term___str__ pm_Term___str__ an_Term___str__ cd_Term___str__ ct_Term___str__), sl_Term___str__⟩)
    (h_c_Term___str__ : PySem.W.codeIn K cd_Term___str__ "Term.__str__" = true)
    (h_k_Term___str__ : PySem.W.keepIn K (.ref f_Term___str__) = true)
    (h_a_Term___str__ : PySem.W.findIn K (.ref C_Term) "__str__" = some (some (.ref f_Term___str__)))
    (h_i_Term___str__ : PySem.W.isFn K (.ref f_Term___str__) = true)
    (h_fm_Term : PySem.W.findIn K (.ref C_Term) "__format__" = some (some (.builtin "object.__format__")))
    (h_l_Term_depth : K.lookup f_Term_depth = some ⟨oc_Term_depth, od_Term_depth, .func (PySem.W.fnOf "depth" "Term.depth" (defArgs s_Term_depth) (defBody s_Term_depth) (defScope s_Term_depth) .none kV_Term_depth dc_Term_depth pm_Term_depth an_Term_depth cd_Term_depth ct_Term_depth), sl_Term_depth⟩)
    (h_c_Term_depth : PySem.W.codeIn K cd_Term_depth "Term.depth" = true)
    (h_k_Term_depth : PySem.W.keepIn K (.ref f_Term_depth) = true)
    (h_q1_Term_depth : PySem.W.findIn K (.ref C_Term) "depth" = some (some (.ref p_Term_depth)))
    (h_q2_Term_depth : PySem.W.specialIn K (.ref p_Term_depth) "__get__" = some (some (.builtin "property.__get__")))
    (h_q3_Term_depth : PySem.W.takesIn K (.ref p_Term_depth) = some true)
    (h_q4_Term_depth : PySem.W.recIn K p_Term_depth "property" = some (.ref f_Term_depth :: re_Term_depth))
    (h_l_Term_kind : K.lookup f_Term_kind = some ⟨oc_Term_kind, od_Term_kind, .func (PySem.W.fnOf "kind" "Term.kind" (defArgs s_Term_kind) (defBody s_Term_kind) (defScope s_Term_kind) .none kV_Term_kind dc_Term_kind pm_Term_kind an_Term_kind cd_Term_kind ct_Term_kind), sl_Term_kind⟩)
    (h_c_Term_kind : PySem.W.codeIn K cd_Term_kind "Term.kind" = true)
    (h_k_Term_kind : PySem.W.keepIn K (.ref f_Term_kind) = true)
    (h_q1_Term_kind : PySem.W.findIn K (.ref C_Term) "kind" = some (some (.ref p_Term_kind)))
    (h_q2_Term_kind : PySem.W.specialIn K (.ref p_Term_kind) "__get__" = some (some (.builtin "property.__get__")))
    (h_q3_Term_kind : PySem.W.takesIn K (.ref p_Term_kind) = some true)
    (h_q4_Term_kind : PySem.W.recIn K p_Term_kind "property" = some (.ref f_Term_kind :: re_Term_kind))
    (h_l_Term_variables : K.lookup f_Term_variables = some ⟨oc_Term_variables, od_Term_variables, .func (PySem.W.fnOf "variables" "Term.variables" (defArgs s_Term_variables) (defBody s_Term_variables) (defScope s_Term_variables) .none kV_Term_variables dc_Term_variables pm_Term_variables an_Term_variables cd_Term_variables ct_Term_variables), sl_Term_variables⟩)
    (h_c_Term_variables : PySem.W.codeIn K cd_Term_variables "Term.variables" = true)
    (h_k_Term_variables : PySem.W.keepIn K (.ref f_Term_variables) = true)
    (h_a_Term_variables : PySem.W.findIn K (.ref C_Term) "variables" = some (some (.ref f_Term_variables)))
    (h_i_Term_variables : PySem.W.isFn K (.ref f_Term_variables) = true)
    (h_l_Term_constants : K.lookup f_Term_constants = some ⟨oc_Term_constants, od_Term_constants, .func (PySem.W.fnOf "constants" "Term.constants" (defArgs s_Term_constants) (defBody s_Term_constants) (defScope s_Term_constants) .none kV_Term_constants dc_Term_constants pm_Term_constants an_Term_constants cd_Term_constants ct_Term_constants), sl_Term_constants⟩)
    (h_c_Term_constants : PySem.W.codeIn K cd_Term_constants "Term.constants" = true)
    (h_k_Term_constants : PySem.W.keepIn K (.ref f_Term_constants) = true)
    (h_a_Term_constants : PySem.W.findIn K (.ref C_Term) "constants" = some (some (.ref f_Term_constants)))
    (h_i_Term_constants : PySem.W.isFn K (.ref f_Term_constants) = true)
    (h_l_Term_parts : K.lookup f_Term_parts = some ⟨oc_Term_parts, od_Term_parts, .func (PySem.W.fnOf "parts" "Term.parts" (defArgs s_Term_parts) (defBody s_Term_parts) (defScope s_Term_parts) .none kV_Term_parts dc_Term_parts pm_Term_parts an_Term_parts cd_Term_parts ct_Term_parts), sl_Term_parts⟩)
    (h_c_Term_parts : PySem.W.codeIn K cd_Term_parts "Term.parts" = true)
    (h_k_Term_parts : PySem.W.keepIn K (.ref f_Term_parts) = true)
    (h_a_Term_parts : PySem.W.findIn K (.ref C_Term) "parts" = some (some (.ref f_Term_parts)))
    (h_i_Term_parts : PySem.W.isFn K (.ref f_Term_parts) = true)
    (h_l_Term___contains__ : K.lookup f_Term___contains__ = some ⟨oc_Term___contains__, od_Term___contains__, .func (PySem.W.fnOf "__contains__" "Term.__contains__" (defArgs s_Term___contains__) (defBody s_Term___contains__) (defScope s_Term___contains__) .none kV_Term___contains__ dc_Term___contains__ pm_Term___contains__ an_Term___contains__ cd_Term___contains__ ct_Term___contains__), sl_Term___contains__⟩)
    (h_c_Term___contains__ : PySem.W.codeIn K cd_Term___contains__ "Term.__contains__" = true)
    (h_k_Term___contains__ : PySem.W.keepIn K (.ref f_Term___contains__) = true)
    (h_a_Term___contains__ : PySem.W.findIn K (.ref C_Term) "__contains__" = some (some (.ref f_Term___contains__)))
    (h_i_Term___contains__ : PySem.W.isFn K (.ref f_Term___contains__) = true)
    (h_l_Term___len__ : K.lookup f_Term___len__ = some ⟨oc_Term___len__, od_Term___len__, .func (PySem.W.fnOf "__len__" "Term.__len__" (defArgs s_Term___len__) (defBody s_Term___len__) (defScope s_Term___len__) .none kV_Term___len__ dc_Term___len__ pm_Term___len__ an_Term___len__ cd_Term___len__ ct_Term___len__), sl_Term___len__⟩)
    (h_c_Term___len__ : PySem.W.codeIn K cd_Term___len__ "Term.__len__" = true)
    (h_k_Term___len__ : PySem.W.keepIn K (.ref f_Term___len__) = true)
    (h_a_Term___len__ : PySem.W.findIn K (.ref C_Term) "__len__" = some (some (.ref f_Term___len__)))
    (h_i_Term___len__ : PySem.W.isFn K (.ref f_Term___len__) = true)
    (h_l_Term___eq__ : K.lookup f_Term___eq__ = some ⟨oc_Term___eq__, od_Term___eq__, .func (PySem.W.fnOf "__eq__" "Term.__eq__" (defArgs s_Term___eq__) (defBody s_Term___eq__) (defScope s_Term___eq__) .none kV_Term___eq__ dc_Term___eq__ pm_Term___eq__ an_Term___eq__ cd_Term___eq__ ct_Term___eq__), sl_Term___eq__⟩)
    (h_c_Term___eq__ : PySem.W.codeIn K cd_Term___eq__ "Term.__eq__" = true)
    (h_k_Term___eq__ : PySem.W.keepIn K (.ref f_Term___eq__) = true)
    (h_a_Term___eq__ : PySem.W.findIn K (.ref C_Term) "__eq__" = some (some (.ref f_Term___eq__)))
    (h_i_Term___eq__ : PySem.W.isFn K (.ref f_Term___eq__) = true)
    (h_ne_Term : PySem.W.findIn K (.ref C_Term) "__ne__" = some (some (.builtin "object.__ne__")))
    (h_nf_Term : PySem.W.notFirst K C_Term (.type "str") = true)
    (h_nx_Term_int : PySem.W.notFirst K C_Term (.type "int") = true)
    (h_nx_Term_tuple : PySem.W.notFirst K C_Term (.type "tuple") = true)
    (h_nx_Term_NoneType : PySem.W.notFirst K C_Term (.type "NoneType") = true)
    (h_nx_Term_bool : PySem.W.notFirst K C_Term (.type "bool") = true)
    (h_nx_Term_list : PySem.W.notFirst K C_Term (.type "list") = true)
    (h_nx_Term_dict : PySem.W.notFirst K C_Term (.type "dict") = true)
    (h_l_Term_within : K.lookup f_Term_within = some ⟨oc_Term_within, od_Term_within, .func (PySem.W.fnOf "within" "Term.within" (defArgs s_Term_within) (defBody s_Term_within) (defScope s_Term_within) .none kV_Term_within dc_Term_within pm_Term_within an_Term_within cd_Term_within ct_Term_within), sl_Term_within⟩)
    (h_c_Term_within : PySem.W.codeIn K cd_Term_within "Term.within" = true)
    (h_k_Term_within : PySem.W.keepIn K (.ref f_Term_within) = true)
    (h_a_Term_within : PySem.W.findIn K (.ref C_Term) "within" = some (some (.ref f_Term_within)))
    (h_i_Term_within : PySem.W.isFn K (.ref f_Term_within) = true)
    (h_no_Term_tree : PySem.W.findIn K (.ref C_Term) "tree" = some none)
    (h_a__law_pool : PySem.W.nsIn K mainGlobals "_law_pool" = some (some (.ref f__law_pool)))
    (h_l__law_pool : K.lookup f__law_pool = some ⟨oc__law_pool, od__law_pool, .func (PySem.W.fnOf "_law_pool" "_law_pool" (defArgs s__law_pool) (defBody s__law_pool) (defScope s__law_pool) .none kV__law_pool dc__law_pool pm__law_pool an__law_pool cd__law_pool ct__law_pool), sl__law_pool⟩)
    (h_c__law_pool : PySem.W.codeIn K cd__law_pool "_law_pool" = true)
    (h_k__law_pool : PySem.W.keepIn K (.ref f__law_pool) = true)
    (h_a__law_take : PySem.W.nsIn K mainGlobals "_law_take" = some (some (.ref f__law_take)))
    (h_l__law_take : K.lookup f__law_take = some ⟨oc__law_take, od__law_take, .func (PySem.W.fnOf "_law_take" "_law_take" (defArgs s__law_take) (defBody s__law_take) (defScope s__law_take) .none kV__law_take dc__law_take pm__law_take an__law_take cd__law_take ct__law_take), sl__law_take⟩)
    (h_c__law_take : PySem.W.codeIn K cd__law_take "_law_take" = true)
    (h_k__law_take : PySem.W.keepIn K (.ref f__law_take) = true)
    (h_a__law_one : PySem.W.nsIn K mainGlobals "_law_one" = some (some (.ref f__law_one)))
    (h_l__law_one : K.lookup f__law_one = some ⟨oc__law_one, od__law_one, .func (PySem.W.fnOf "_law_one" "_law_one" (defArgs s__law_one) (defBody s__law_one) (defScope s__law_one) .none kV__law_one dc__law_one pm__law_one an__law_one cd__law_one ct__law_one), sl__law_one⟩)
    (h_c__law_one : PySem.W.codeIn K cd__law_one "_law_one" = true)
    (h_k__law_one : PySem.W.keepIn K (.ref f__law_one) = true)
    (h_a__law_words : PySem.W.nsIn K mainGlobals "_law_words" = some (some (.ref f__law_words)))
    (h_l__law_words : K.lookup f__law_words = some ⟨oc__law_words, od__law_words, .func (PySem.W.fnOf "_law_words" "_law_words" (defArgs s__law_words) (defBody s__law_words) (defScope s__law_words) .none kV__law_words dc__law_words pm__law_words an__law_words cd__law_words ct__law_words), sl__law_words⟩)
    (h_c__law_words : PySem.W.codeIn K cd__law_words "_law_words" = true)
    (h_k__law_words : PySem.W.keepIn K (.ref f__law_words) = true)
    (h_a__law_tree : PySem.W.nsIn K mainGlobals "_law_tree" = some (some (.ref f__law_tree)))
    (h_l__law_tree : K.lookup f__law_tree = some ⟨oc__law_tree, od__law_tree, .func (PySem.W.fnOf "_law_tree" "_law_tree" (defArgs s__law_tree) (defBody s__law_tree) (defScope s__law_tree) .none kV__law_tree dc__law_tree pm__law_tree an__law_tree cd__law_tree ct__law_tree), sl__law_tree⟩)
    (h_c__law_tree : PySem.W.codeIn K cd__law_tree "_law_tree" = true)
    (h_k__law_tree : PySem.W.keepIn K (.ref f__law_tree) = true)
    (h_a__law_tree_text : PySem.W.nsIn K mainGlobals "_law_tree_text" = some (some (.ref f__law_tree_text)))
    (h_l__law_tree_text : K.lookup f__law_tree_text = some ⟨oc__law_tree_text, od__law_tree_text, .func (PySem.W.fnOf "_law_tree_text" "_law_tree_text" (defArgs s__law_tree_text) (defBody s__law_tree_text) (defScope s__law_tree_text) .none kV__law_tree_text dc__law_tree_text pm__law_tree_text an__law_tree_text cd__law_tree_text ct__law_tree_text), sl__law_tree_text⟩)
    (h_c__law_tree_text : PySem.W.codeIn K cd__law_tree_text "_law_tree_text" = true)
    (h_k__law_tree_text : PySem.W.keepIn K (.ref f__law_tree_text) = true)
    (h_a__law_tree_deep : PySem.W.nsIn K mainGlobals "_law_tree_deep" = some (some (.ref f__law_tree_deep)))
    (h_l__law_tree_deep : K.lookup f__law_tree_deep = some ⟨oc__law_tree_deep, od__law_tree_deep, .func (PySem.W.fnOf "_law_tree_deep" "_law_tree_deep" (defArgs s__law_tree_deep) (defBody s__law_tree_deep) (defScope s__law_tree_deep) .none kV__law_tree_deep dc__law_tree_deep pm__law_tree_deep an__law_tree_deep cd__law_tree_deep ct__law_tree_deep), sl__law_tree_deep⟩)
    (h_c__law_tree_deep : PySem.W.codeIn K cd__law_tree_deep "_law_tree_deep" = true)
    (h_k__law_tree_deep : PySem.W.keepIn K (.ref f__law_tree_deep) = true)
    (h_a__law_tree_leaves : PySem.W.nsIn K mainGlobals "_law_tree_leaves" = some (some (.ref f__law_tree_leaves)))
    (h_l__law_tree_leaves : K.lookup f__law_tree_leaves = some ⟨oc__law_tree_leaves, od__law_tree_leaves, .func (PySem.W.fnOf "_law_tree_leaves" "_law_tree_leaves" (defArgs s__law_tree_leaves) (defBody s__law_tree_leaves) (defScope s__law_tree_leaves) .none kV__law_tree_leaves dc__law_tree_leaves pm__law_tree_leaves an__law_tree_leaves cd__law_tree_leaves ct__law_tree_leaves), sl__law_tree_leaves⟩)
    (h_c__law_tree_leaves : PySem.W.codeIn K cd__law_tree_leaves "_law_tree_leaves" = true)
    (h_k__law_tree_leaves : PySem.W.keepIn K (.ref f__law_tree_leaves) = true)
    (h_a__law_tree_words : PySem.W.nsIn K mainGlobals "_law_tree_words" = some (some (.ref f__law_tree_words)))
    (h_l__law_tree_words : K.lookup f__law_tree_words = some ⟨oc__law_tree_words, od__law_tree_words, .func (PySem.W.fnOf "_law_tree_words" "_law_tree_words" (defArgs s__law_tree_words) (defBody s__law_tree_words) (defScope s__law_tree_words) .none kV__law_tree_words dc__law_tree_words pm__law_tree_words an__law_tree_words cd__law_tree_words ct__law_tree_words), sl__law_tree_words⟩)
    (h_c__law_tree_words : PySem.W.codeIn K cd__law_tree_words "_law_tree_words" = true)
    (h_k__law_tree_words : PySem.W.keepIn K (.ref f__law_tree_words) = true)
    (h_a__law_tree_digits : PySem.W.nsIn K mainGlobals "_law_tree_digits" = some (some (.ref f__law_tree_digits)))
    (h_l__law_tree_digits : K.lookup f__law_tree_digits = some ⟨oc__law_tree_digits, od__law_tree_digits, .func (PySem.W.fnOf "_law_tree_digits" "_law_tree_digits" (defArgs s__law_tree_digits) (defBody s__law_tree_digits) (defScope s__law_tree_digits) .none kV__law_tree_digits dc__law_tree_digits pm__law_tree_digits an__law_tree_digits cd__law_tree_digits ct__law_tree_digits), sl__law_tree_digits⟩)
    (h_c__law_tree_digits : PySem.W.codeIn K cd__law_tree_digits "_law_tree_digits" = true)
    (h_k__law_tree_digits : PySem.W.keepIn K (.ref f__law_tree_digits) = true)
    (h_a__law_kind_told : PySem.W.nsIn K mainGlobals "_law_kind_told" = some (some (.ref f__law_kind_told)))
    (h_l__law_kind_told : K.lookup f__law_kind_told = some ⟨oc__law_kind_told, od__law_kind_told, .func (PySem.W.fnOf "_law_kind_told" "_law_kind_told" (defArgs s__law_kind_told) (defBody s__law_kind_told) (defScope s__law_kind_told) .none kV__law_kind_told dc__law_kind_told pm__law_kind_told an__law_kind_told cd__law_kind_told ct__law_kind_told), sl__law_kind_told⟩)
    (h_c__law_kind_told : PySem.W.codeIn K cd__law_kind_told "_law_kind_told" = true)
    (h_k__law_kind_told : PySem.W.keepIn K (.ref f__law_kind_told) = true)
    (h_a__law_told : PySem.W.nsIn K mainGlobals "_law_told" = some (some (.ref f__law_told)))
    (h_l__law_told : K.lookup f__law_told = some ⟨oc__law_told, od__law_told, .func (PySem.W.fnOf "_law_told" "_law_told" (defArgs s__law_told) (defBody s__law_told) (defScope s__law_told) .none kV__law_told dc__law_told pm__law_told an__law_told cd__law_told ct__law_told), sl__law_told⟩)
    (h_c__law_told : PySem.W.codeIn K cd__law_told "_law_told" = true)
    (h_k__law_told : PySem.W.keepIn K (.ref f__law_told) = true)
    (h_a__law_due : PySem.W.nsIn K mainGlobals "_law_due" = some (some (.ref f__law_due)))
    (h_l__law_due : K.lookup f__law_due = some ⟨oc__law_due, od__law_due, .func (PySem.W.fnOf "_law_due" "_law_due" (defArgs s__law_due) (defBody s__law_due) (defScope s__law_due) .none kV__law_due dc__law_due pm__law_due an__law_due cd__law_due ct__law_due), sl__law_due⟩)
    (h_c__law_due : PySem.W.codeIn K cd__law_due "_law_due" = true)
    (h_k__law_due : PySem.W.keepIn K (.ref f__law_due) = true)
    (h_a_law : PySem.W.nsIn K mainGlobals "law" = some (some (.ref f_law)))
    (h_l_law : K.lookup f_law = some ⟨oc_law, od_law, .func (PySem.W.fnOf "law" "law" (defArgs s_law) (defBody s_law) (defScope s_law) .none kV_law dc_law pm_law an_law cd_law ct_law), sl_law⟩)
    (h_c_law : PySem.W.codeIn K cd_law "law" = true)
    (h_k_law : PySem.W.keepIn K (.ref f_law) = true)
    (h_b_len : PySem.W.nsIn K mainGlobals "len" = some none)
    (h_b_max : PySem.W.nsIn K mainGlobals "max" = some none)
    (h_b_min : PySem.W.nsIn K mainGlobals "min" = some none)
    (h_b_int : PySem.W.nsIn K mainGlobals "int" = some none)
    (h_b_str : PySem.W.nsIn K mainGlobals "str" = some none)
    (h_b_tuple : PySem.W.nsIn K mainGlobals "tuple" = some none)
    (h_b_list : PySem.W.nsIn K mainGlobals "list" = some none)
    (h_b_bool : PySem.W.nsIn K mainGlobals "bool" = some none)
    (h_b_dict : PySem.W.nsIn K mainGlobals "dict" = some none)
    (h_b_set : PySem.W.nsIn K mainGlobals "set" = some none)
    (h_b_isinstance : PySem.W.nsIn K mainGlobals "isinstance" = some none)
    (h_b_sorted : PySem.W.nsIn K mainGlobals "sorted" = some none)
    (h_b_repr : PySem.W.nsIn K mainGlobals "repr" = some none)
    (h_b_range : PySem.W.nsIn K mainGlobals "range" = some none)
    (h_b_enumerate : PySem.W.nsIn K mainGlobals "enumerate" = some none)
    (h_b_zip : PySem.W.nsIn K mainGlobals "zip" = some none)
    (h_b_sum : PySem.W.nsIn K mainGlobals "sum" = some none)
    (h_b_all : PySem.W.nsIn K mainGlobals "all" = some none)
    (h_b_any : PySem.W.nsIn K mainGlobals "any" = some none)
    (h_sup : PySem.W.nsIn K mainGlobals "super" = some none)
    (h_topS : (P.main.scope.names.lookup ("super" : Str)).isSome = false)
    (h_opq : PySem.W.nsIn K PySem.cStatics "thirdparty.any" = some none)
    (h_tn : PySem.W.specialIn K (.builtin "object.__class__") "__get__" = some (some (.builtin "getset_descriptor.__get__")))
    (h_tt : PySem.W.takesIn K (.builtin "object.__class__") = some true) :
    ∃ a : Ad, Tx P K mg a := by
  refine ⟨⟨C_TiedError, C_NoTerm, i_NoTerm, f_is_whole, (PySem.W.fnOf "is_whole" "is_whole" (defArgs s_is_whole) (defBody s_is_whole) (defScope s_is_whole) .none kV_is_whole dc_is_whole pm_is_whole an_is_whole cd_is_whole ct_is_whole), f_is_number, (PySem.W.fnOf "is_number" "is_number" (defArgs s_is_number) (defBody s_is_number) (defScope s_is_number) .none kV_is_number dc_is_number pm_is_number an_is_number cd_is_number ct_is_number), f_is_word, (PySem.W.fnOf "is_word" "is_word" (defArgs s_is_word) (defBody s_is_word) (defScope s_is_word) .none kV_is_word dc_is_word pm_is_word an_is_word cd_is_word ct_is_word), f_is_digit, (PySem.W.fnOf "is_digit" "is_digit" (defArgs s_is_digit) (defBody s_is_digit) (defScope s_is_digit) .none kV_is_digit dc_is_digit pm_is_digit an_is_digit cd_is_digit ct_is_digit), f_ascending_words, (PySem.W.fnOf "ascending_words" "ascending_words" (defArgs s_ascending_words) (defBody s_ascending_words) (defScope s_ascending_words) .none kV_ascending_words dc_ascending_words pm_ascending_words an_ascending_words cd_ascending_words ct_ascending_words), f_ascending_numbers, (PySem.W.fnOf "ascending_numbers" "ascending_numbers" (defArgs s_ascending_numbers) (defBody s_ascending_numbers) (defScope s_ascending_numbers) .none kV_ascending_numbers dc_ascending_numbers pm_ascending_numbers an_ascending_numbers cd_ascending_numbers ct_ascending_numbers), v_SIGNS, f_word_at, (PySem.W.fnOf "word_at" "word_at" (defArgs s_word_at) (defBody s_word_at) (defScope s_word_at) .none kV_word_at dc_word_at pm_word_at an_word_at cd_word_at ct_word_at), f_plan_at, (PySem.W.fnOf "plan_at" "plan_at" (defArgs s_plan_at) (defBody s_plan_at) (defScope s_plan_at) .none kV_plan_at dc_plan_at pm_plan_at an_plan_at cd_plan_at ct_plan_at), f_depth_of, (PySem.W.fnOf "depth_of" "depth_of" (defArgs s_depth_of) (defBody s_depth_of) (defScope s_depth_of) .none kV_depth_of dc_depth_of pm_depth_of an_depth_of cd_depth_of ct_depth_of), f_text_of, (PySem.W.fnOf "text_of" "text_of" (defArgs s_text_of) (defBody s_text_of) (defScope s_text_of) .none kV_text_of dc_text_of pm_text_of an_text_of cd_text_of ct_text_of), f_leaves_of, (PySem.W.fnOf "leaves_of" "leaves_of" (defArgs s_leaves_of) (defBody s_leaves_of) (defScope s_leaves_of) .none kV_leaves_of dc_leaves_of pm_leaves_of an_leaves_of cd_leaves_of ct_leaves_of), f_stands_in, (PySem.W.fnOf "stands_in" "stands_in" (defArgs s_stands_in) (defBody s_stands_in) (defScope s_stands_in) .none kV_stands_in dc_stands_in pm_stands_in an_stands_in cd_stands_in ct_stands_in), f_plan_of, (PySem.W.fnOf "plan_of" "plan_of" (defArgs s_plan_of) (defBody s_plan_of) (defScope s_plan_of) .none kV_plan_of dc_plan_of pm_plan_of an_plan_of cd_plan_of ct_plan_of), C_Term, f_Term___init__, (PySem.W.fnOf "__init__" "Term.__init__" (defArgs s_Term___init__) (defBody s_Term___init__) (defScope s_Term___init__) .none kV_Term___init__ dc_Term___init__ pm_Term___init__ an_Term___init__ cd_Term___init__ ct_Term___init__), f_Term_choice, (PySem.W.fnOf "choice" "Term.choice" (defArgs s_Term_choice) (defBody s_Term_choice) (defScope s_Term_choice) .none kV_Term_choice dc_Term_choice pm_Term_choice an_Term_choice cd_Term_choice ct_Term_choice), p_Term_choice, f_Term___str__, (PySem.W.fnOf "__str__" "Term.__str__" (defArgs s_Term___str__) (defBody s_Term___str__) (defScope s_Term___str__) .none kV_Term___str__ dc_Term___str__ pm_Term___str__ an_Term___str__ cd_Term___str__ ct_Term___str__), f_Term_depth, (PySem.W.fnOf "depth" "Term.depth" (defArgs s_Term_depth) (defBody s_Term_depth) (defScope s_Term_depth) .none kV_Term_depth dc_Term_depth pm_Term_depth an_Term_depth cd_Term_depth ct_Term_depth), p_Term_depth, f_Term_kind, (PySem.W.fnOf "kind" "Term.kind" (defArgs s_Term_kind) (defBody s_Term_kind) (defScope s_Term_kind) .none kV_Term_kind dc_Term_kind pm_Term_kind an_Term_kind cd_Term_kind ct_Term_kind), p_Term_kind, f_Term_variables, (PySem.W.fnOf "variables" "Term.variables" (defArgs s_Term_variables) (defBody s_Term_variables) (defScope s_Term_variables) .none kV_Term_variables dc_Term_variables pm_Term_variables an_Term_variables cd_Term_variables ct_Term_variables), f_Term_constants, (PySem.W.fnOf "constants" "Term.constants" (defArgs s_Term_constants) (defBody s_Term_constants) (defScope s_Term_constants) .none kV_Term_constants dc_Term_constants pm_Term_constants an_Term_constants cd_Term_constants ct_Term_constants), f_Term_parts, (PySem.W.fnOf "parts" "Term.parts" (defArgs s_Term_parts) (defBody s_Term_parts) (defScope s_Term_parts) .none kV_Term_parts dc_Term_parts pm_Term_parts an_Term_parts cd_Term_parts ct_Term_parts), f_Term___contains__, (PySem.W.fnOf "__contains__" "Term.__contains__" (defArgs s_Term___contains__) (defBody s_Term___contains__) (defScope s_Term___contains__) .none kV_Term___contains__ dc_Term___contains__ pm_Term___contains__ an_Term___contains__ cd_Term___contains__ ct_Term___contains__), f_Term___len__, (PySem.W.fnOf "__len__" "Term.__len__" (defArgs s_Term___len__) (defBody s_Term___len__) (defScope s_Term___len__) .none kV_Term___len__ dc_Term___len__ pm_Term___len__ an_Term___len__ cd_Term___len__ ct_Term___len__), f_Term___eq__, (PySem.W.fnOf "__eq__" "Term.__eq__" (defArgs s_Term___eq__) (defBody s_Term___eq__) (defScope s_Term___eq__) .none kV_Term___eq__ dc_Term___eq__ pm_Term___eq__ an_Term___eq__ cd_Term___eq__ ct_Term___eq__), f_Term_within, (PySem.W.fnOf "within" "Term.within" (defArgs s_Term_within) (defBody s_Term_within) (defScope s_Term_within) .none kV_Term_within dc_Term_within pm_Term_within an_Term_within cd_Term_within ct_Term_within), f__law_pool, (PySem.W.fnOf "_law_pool" "_law_pool" (defArgs s__law_pool) (defBody s__law_pool) (defScope s__law_pool) .none kV__law_pool dc__law_pool pm__law_pool an__law_pool cd__law_pool ct__law_pool), f__law_take, (PySem.W.fnOf "_law_take" "_law_take" (defArgs s__law_take) (defBody s__law_take) (defScope s__law_take) .none kV__law_take dc__law_take pm__law_take an__law_take cd__law_take ct__law_take), f__law_one, (PySem.W.fnOf "_law_one" "_law_one" (defArgs s__law_one) (defBody s__law_one) (defScope s__law_one) .none kV__law_one dc__law_one pm__law_one an__law_one cd__law_one ct__law_one), f__law_words, (PySem.W.fnOf "_law_words" "_law_words" (defArgs s__law_words) (defBody s__law_words) (defScope s__law_words) .none kV__law_words dc__law_words pm__law_words an__law_words cd__law_words ct__law_words), f__law_tree, (PySem.W.fnOf "_law_tree" "_law_tree" (defArgs s__law_tree) (defBody s__law_tree) (defScope s__law_tree) .none kV__law_tree dc__law_tree pm__law_tree an__law_tree cd__law_tree ct__law_tree), f__law_tree_text, (PySem.W.fnOf "_law_tree_text" "_law_tree_text" (defArgs s__law_tree_text) (defBody s__law_tree_text) (defScope s__law_tree_text) .none kV__law_tree_text dc__law_tree_text pm__law_tree_text an__law_tree_text cd__law_tree_text ct__law_tree_text), f__law_tree_deep, (PySem.W.fnOf "_law_tree_deep" "_law_tree_deep" (defArgs s__law_tree_deep) (defBody s__law_tree_deep) (defScope s__law_tree_deep) .none kV__law_tree_deep dc__law_tree_deep pm__law_tree_deep an__law_tree_deep cd__law_tree_deep ct__law_tree_deep), f__law_tree_leaves, (PySem.W.fnOf "_law_tree_leaves" "_law_tree_leaves" (defArgs s__law_tree_leaves) (defBody s__law_tree_leaves) (defScope s__law_tree_leaves) .none kV__law_tree_leaves dc__law_tree_leaves pm__law_tree_leaves an__law_tree_leaves cd__law_tree_leaves ct__law_tree_leaves), f__law_tree_words, (PySem.W.fnOf "_law_tree_words" "_law_tree_words" (defArgs s__law_tree_words) (defBody s__law_tree_words) (defScope s__law_tree_words) .none kV__law_tree_words dc__law_tree_words pm__law_tree_words an__law_tree_words cd__law_tree_words ct__law_tree_words), f__law_tree_digits, (PySem.W.fnOf "_law_tree_digits" "_law_tree_digits" (defArgs s__law_tree_digits) (defBody s__law_tree_digits) (defScope s__law_tree_digits) .none kV__law_tree_digits dc__law_tree_digits pm__law_tree_digits an__law_tree_digits cd__law_tree_digits ct__law_tree_digits), f__law_kind_told, (PySem.W.fnOf "_law_kind_told" "_law_kind_told" (defArgs s__law_kind_told) (defBody s__law_kind_told) (defScope s__law_kind_told) .none kV__law_kind_told dc__law_kind_told pm__law_kind_told an__law_kind_told cd__law_kind_told ct__law_kind_told), f__law_told, (PySem.W.fnOf "_law_told" "_law_told" (defArgs s__law_told) (defBody s__law_told) (defScope s__law_told) .none kV__law_told dc__law_told pm__law_told an__law_told cd__law_told ct__law_told), f__law_due, (PySem.W.fnOf "_law_due" "_law_due" (defArgs s__law_due) (defBody s__law_due) (defScope s__law_due) .none kV__law_due dc__law_due pm__law_due an__law_due cd__law_due ct__law_due), f_law, (PySem.W.fnOf "law" "law" (defArgs s_law) (defBody s_law) (defScope s_law) .none kV_law dc_law pm_law an_law cd_law ct_law)⟩, ⟨?p_g_TiedError, ?p_te_NoTerm, ?p_kb_NoTerm_TiedError, ?p_e_NoTerm, ?p_v_LETTERS, ?p_v_DIGITS, ?p_v_MOST_LETTERS, ?p_is_whole, ?p_is_number, ?p_is_word, ?p_is_digit, ?p_ascending_words, ?p_ascending_numbers, ?p_v_MOST_DEPTH, ?p_v_MOST_CONSTANT, ?p_v_SIGNS, ?p_w_SIGNS, ?p_word_at, ?p_plan_at, ?p_depth_of, ?p_text_of, ?p_leaves_of, ?p_stands_in, ?p_plan_of, ?p_g_Term, ?p_c_Term, ?p_kp_Term, ?p_ty_Term, ?p_mo_Term, ?p_kit_Term_NoneType, ?p_kit_Term_bool, ?p_kit_Term_int, ?p_kit_Term_str, ?p_kit_Term_list, ?p_kit_Term_tuple, ?p_kit_Term_dict, ?p_kit_Term, ?p_Term___init__, ?p_b_Term___init__, ?p_mk_Term, ?p_Term_choice, ?p_b_Term_choice, ?p_m_Term_choice, ?p_Term___str__, ?p_b_Term___str__, ?p_m_Term___str__, ?p_fm_Term, ?p_Term_depth, ?p_b_Term_depth, ?p_p_Term_depth, ?p_Term_kind, ?p_b_Term_kind, ?p_p_Term_kind, ?p_Term_variables, ?p_b_Term_variables, ?p_m_Term_variables, ?p_Term_constants, ?p_b_Term_constants, ?p_m_Term_constants, ?p_Term_parts, ?p_b_Term_parts, ?p_m_Term_parts, ?p_Term___contains__, ?p_b_Term___contains__, ?p_m_Term___contains__, ?p_Term___len__, ?p_b_Term___len__, ?p_m_Term___len__, ?p_Term___eq__, ?p_b_Term___eq__, ?p_m_Term___eq__, ?p_nx_Term_int, ?p_nx_Term_tuple, ?p_nx_Term_NoneType, ?p_nx_Term_bool, ?p_nx_Term_list, ?p_nx_Term_dict, ?p_nf_Term, ?p_ne_Term, ?p_Term_within, ?p_b_Term_within, ?p_m_Term_within, ?p_no_Term_tree, ?p__law_pool, ?p__law_take, ?p__law_one, ?p__law_words, ?p__law_tree, ?p__law_tree_text, ?p__law_tree_deep, ?p__law_tree_leaves, ?p__law_tree_words, ?p__law_tree_digits, ?p__law_kind_told, ?p__law_told, ?p__law_due, ?p_law, ?p_blaw, ?p_bi, ?p_tn, ?p_tt⟩⟩
  case p_g_TiedError => exact PySem.W.mg_of X G h_g_TiedError
  case p_te_NoTerm => exact h_te_NoTerm
  case p_kb_NoTerm_TiedError => exact h_kb_NoTerm_TiedError
  case p_e_NoTerm => exact ⟨PySem.W.mg_of X G h_g_NoTerm, ⟨_, _, _, _, _, _, _, _, _, _, _, _, _, _, _, h_l_NoTerm, h_r_NoTerm⟩, h_s_NoTerm, h_n_NoTerm, h_i_NoTerm, h_t_NoTerm, h_k_NoTerm, h_x_NoTerm, h_v_NoTerm, h_y_NoTerm, xfB_ok h_xf_NoTerm, ⟨_, _, _, _, _, _, _, _, _, _, _, _, _, _, _, _, _, _, _, _, _, _, _, _, _, _, _, _, _, _, _, _, _, h_fn_NoTerm, h_cd_NoTerm, h_lc_NoTerm, h_v2_NoTerm, h_fi_NoTerm, h_ln_NoTerm, h_ce_NoTerm⟩, PySem.W.mg_none_of X G h_sup, h_topS, h_se_NoTerm, h_up_NoTerm, h_opq, by decide, by decide, by decide, by decide, bd_value⟩
  case p_v_LETTERS => exact ⟨_, PySem.W.mg_of X G h_v_LETTERS⟩
  case p_v_DIGITS => exact ⟨_, PySem.W.mg_of X G h_v_DIGITS⟩
  case p_v_MOST_LETTERS => exact ⟨_, PySem.W.mg_of X G h_v_MOST_LETTERS⟩
  case p_is_whole => exact ⟨PySem.W.mg_of X G h_a_is_whole, fun_mk (st := s_is_whole) h_l_is_whole h_c_is_whole h_k_is_whole, (fun_mk (st := s_is_whole) h_l_is_whole h_c_is_whole h_k_is_whole).binds (ps := ["value"]) fun _ _ _ _ _ _ us hl => match us, hl with | [_], _ => rfl⟩
  case p_is_number => exact ⟨PySem.W.mg_of X G h_a_is_number, fun_mk (st := s_is_number) h_l_is_number h_c_is_number h_k_is_number, (fun_mk (st := s_is_number) h_l_is_number h_c_is_number h_k_is_number).binds (ps := ["value", "low", "high"]) fun _ _ _ _ _ _ us hl => match us, hl with | [_, _, _], _ => rfl⟩
  case p_is_word => exact ⟨PySem.W.mg_of X G h_a_is_word, fun_mk (st := s_is_word) h_l_is_word h_c_is_word h_k_is_word, (fun_mk (st := s_is_word) h_l_is_word h_c_is_word h_k_is_word).binds (ps := ["value"]) fun _ _ _ _ _ _ us hl => match us, hl with | [_], _ => rfl⟩
  case p_is_digit => exact ⟨PySem.W.mg_of X G h_a_is_digit, fun_mk (st := s_is_digit) h_l_is_digit h_c_is_digit h_k_is_digit, (fun_mk (st := s_is_digit) h_l_is_digit h_c_is_digit h_k_is_digit).binds (ps := ["value"]) fun _ _ _ _ _ _ us hl => match us, hl with | [_], _ => rfl⟩
  case p_ascending_words => exact ⟨PySem.W.mg_of X G h_a_ascending_words, fun_mk (st := s_ascending_words) h_l_ascending_words h_c_ascending_words h_k_ascending_words, (fun_mk (st := s_ascending_words) h_l_ascending_words h_c_ascending_words h_k_ascending_words).binds (ps := ["words"]) fun _ _ _ _ _ _ us hl => match us, hl with | [_], _ => rfl⟩
  case p_ascending_numbers => exact ⟨PySem.W.mg_of X G h_a_ascending_numbers, fun_mk (st := s_ascending_numbers) h_l_ascending_numbers h_c_ascending_numbers h_k_ascending_numbers, (fun_mk (st := s_ascending_numbers) h_l_ascending_numbers h_c_ascending_numbers h_k_ascending_numbers).binds (ps := ["numbers"]) fun _ _ _ _ _ _ us hl => match us, hl with | [_], _ => rfl⟩
  case p_v_MOST_DEPTH => exact ⟨_, PySem.W.mg_of X G h_v_MOST_DEPTH⟩
  case p_v_MOST_CONSTANT => exact ⟨_, PySem.W.mg_of X G h_v_MOST_CONSTANT⟩
  case p_v_SIGNS => exact PySem.W.mg_of X G h_v_SIGNS
  case p_w_SIGNS => exact fun H => .inr ⟨_, _, _, h_w_SIGNS, rfl, rfl, by show 5 ≤ sizeLine; decide, by repeat (first | exact .nil | refine .cons ⟨_, rfl⟩ ?_)⟩
  case p_word_at => exact ⟨PySem.W.mg_of X G h_a_word_at, fun_mk (st := s_word_at) h_l_word_at h_c_word_at h_k_word_at, (fun_mk (st := s_word_at) h_l_word_at h_c_word_at h_k_word_at).binds (ps := ["text", "at"]) fun _ _ _ _ _ _ us hl => match us, hl with | [_, _], _ => rfl⟩
  case p_plan_at => exact ⟨PySem.W.mg_of X G h_a_plan_at, fun_mk (st := s_plan_at) h_l_plan_at h_c_plan_at h_k_plan_at, (fun_mk (st := s_plan_at) h_l_plan_at h_c_plan_at h_k_plan_at).binds (ps := ["text", "at", "deep"]) fun _ _ _ _ _ _ us hl => match us, hl with | [_, _, _], _ => rfl⟩
  case p_depth_of => exact ⟨PySem.W.mg_of X G h_a_depth_of, fun_mk (st := s_depth_of) h_l_depth_of h_c_depth_of h_k_depth_of, (fun_mk (st := s_depth_of) h_l_depth_of h_c_depth_of h_k_depth_of).binds (ps := ["plan"]) fun _ _ _ _ _ _ us hl => match us, hl with | [_], _ => rfl⟩
  case p_text_of => exact ⟨PySem.W.mg_of X G h_a_text_of, fun_mk (st := s_text_of) h_l_text_of h_c_text_of h_k_text_of, (fun_mk (st := s_text_of) h_l_text_of h_c_text_of h_k_text_of).binds (ps := ["plan"]) fun _ _ _ _ _ _ us hl => match us, hl with | [_], _ => rfl⟩
  case p_leaves_of => exact ⟨PySem.W.mg_of X G h_a_leaves_of, fun_mk (st := s_leaves_of) h_l_leaves_of h_c_leaves_of h_k_leaves_of, (fun_mk (st := s_leaves_of) h_l_leaves_of h_c_leaves_of h_k_leaves_of).binds (ps := ["plan"]) fun _ _ _ _ _ _ us hl => match us, hl with | [_], _ => rfl⟩
  case p_stands_in => exact ⟨PySem.W.mg_of X G h_a_stands_in, fun_mk (st := s_stands_in) h_l_stands_in h_c_stands_in h_k_stands_in, (fun_mk (st := s_stands_in) h_l_stands_in h_c_stands_in h_k_stands_in).binds (ps := ["plan", "whole"]) fun _ _ _ _ _ _ us hl => match us, hl with | [_, _], _ => rfl⟩
  case p_plan_of => exact ⟨PySem.W.mg_of X G h_a_plan_of, fun_mk (st := s_plan_of) h_l_plan_of h_c_plan_of h_k_plan_of, (fun_mk (st := s_plan_of) h_l_plan_of h_c_plan_of h_k_plan_of).binds (ps := ["value"]) fun _ _ _ _ _ _ us hl => match us, hl with | [_], _ => rfl⟩
  case p_g_Term => exact PySem.W.mg_of X G h_g_Term
  case p_c_Term => exact ⟨h_pg_Term, h_hd_Term, h_po_Term, h_sa_Term⟩
  case p_kp_Term => exact h_kp_Term
  case p_ty_Term => exact h_ty_Term
  case p_mo_Term => exact h_mo_Term
  case p_kit_Term_NoneType => exact h_kit_Term_NoneType
  case p_kit_Term_bool => exact h_kit_Term_bool
  case p_kit_Term_int => exact h_kit_Term_int
  case p_kit_Term_str => exact h_kit_Term_str
  case p_kit_Term_list => exact h_kit_Term_list
  case p_kit_Term_tuple => exact h_kit_Term_tuple
  case p_kit_Term_dict => exact h_kit_Term_dict
  case p_kit_Term => exact h_kit_Term
  case p_Term___init__ => exact fun_mk (st := s_Term___init__) h_l_Term___init__ h_c_Term___init__ h_k_Term___init__
  case p_b_Term___init__ => exact (fun_mk (st := s_Term___init__) h_l_Term___init__ h_c_Term___init__ h_k_Term___init__).binds (ps := ["self", "value"]) fun _ _ _ _ _ _ us hl => match us, hl with | [_, _], _ => rfl
  case p_mk_Term => exact ⟨h_mk_Term, h_a_Term___init__, h_i_Term___init__, h_kp_Term⟩
  case p_Term_choice => exact fun_mk (st := s_Term_choice) h_l_Term_choice h_c_Term_choice h_k_Term_choice
  case p_b_Term_choice => exact (fun_mk (st := s_Term_choice) h_l_Term_choice h_c_Term_choice h_k_Term_choice).binds (ps := ["one", "other", "same", "unlike"]) fun _ _ _ _ _ _ us hl => match us, hl with | [_, _, _, _], _ => rfl
  case p_m_Term_choice => exact ⟨h_r1_Term_choice, h_r2_Term_choice, h_r3_Term_choice, ⟨_, h_r4_Term_choice⟩, h_k_Term_choice⟩
  case p_Term___str__ => exact fun_mk (st := s_Term___str__) h_l_Term___str__ h_c_Term___str__ h_k_Term___str__
  case p_b_Term___str__ => exact (fun_mk (st := s_Term___str__) h_l_Term___str__ h_c_Term___str__ h_k_Term___str__).binds (ps := ["self"]) fun _ _ _ _ _ _ us hl => match us, hl with | [_], _ => rfl
  case p_m_Term___str__ => exact ⟨h_a_Term___str__, h_i_Term___str__, h_k_Term___str__⟩
  case p_fm_Term => exact h_fm_Term
  case p_Term_depth => exact fun_mk (st := s_Term_depth) h_l_Term_depth h_c_Term_depth h_k_Term_depth
  case p_b_Term_depth => exact (fun_mk (st := s_Term_depth) h_l_Term_depth h_c_Term_depth h_k_Term_depth).binds (ps := ["self"]) fun _ _ _ _ _ _ us hl => match us, hl with | [_], _ => rfl
  case p_p_Term_depth => exact ⟨h_q1_Term_depth, h_q2_Term_depth, h_q3_Term_depth, ⟨_, h_q4_Term_depth⟩⟩
  case p_Term_kind => exact fun_mk (st := s_Term_kind) h_l_Term_kind h_c_Term_kind h_k_Term_kind
  case p_b_Term_kind => exact (fun_mk (st := s_Term_kind) h_l_Term_kind h_c_Term_kind h_k_Term_kind).binds (ps := ["self"]) fun _ _ _ _ _ _ us hl => match us, hl with | [_], _ => rfl
  case p_p_Term_kind => exact ⟨h_q1_Term_kind, h_q2_Term_kind, h_q3_Term_kind, ⟨_, h_q4_Term_kind⟩⟩
  case p_Term_variables => exact fun_mk (st := s_Term_variables) h_l_Term_variables h_c_Term_variables h_k_Term_variables
  case p_b_Term_variables => exact (fun_mk (st := s_Term_variables) h_l_Term_variables h_c_Term_variables h_k_Term_variables).binds (ps := ["self"]) fun _ _ _ _ _ _ us hl => match us, hl with | [_], _ => rfl
  case p_m_Term_variables => exact ⟨h_a_Term_variables, h_i_Term_variables, h_k_Term_variables⟩
  case p_Term_constants => exact fun_mk (st := s_Term_constants) h_l_Term_constants h_c_Term_constants h_k_Term_constants
  case p_b_Term_constants => exact (fun_mk (st := s_Term_constants) h_l_Term_constants h_c_Term_constants h_k_Term_constants).binds (ps := ["self"]) fun _ _ _ _ _ _ us hl => match us, hl with | [_], _ => rfl
  case p_m_Term_constants => exact ⟨h_a_Term_constants, h_i_Term_constants, h_k_Term_constants⟩
  case p_Term_parts => exact fun_mk (st := s_Term_parts) h_l_Term_parts h_c_Term_parts h_k_Term_parts
  case p_b_Term_parts => exact (fun_mk (st := s_Term_parts) h_l_Term_parts h_c_Term_parts h_k_Term_parts).binds (ps := ["self"]) fun _ _ _ _ _ _ us hl => match us, hl with | [_], _ => rfl
  case p_m_Term_parts => exact ⟨h_a_Term_parts, h_i_Term_parts, h_k_Term_parts⟩
  case p_Term___contains__ => exact fun_mk (st := s_Term___contains__) h_l_Term___contains__ h_c_Term___contains__ h_k_Term___contains__
  case p_b_Term___contains__ => exact (fun_mk (st := s_Term___contains__) h_l_Term___contains__ h_c_Term___contains__ h_k_Term___contains__).binds (ps := ["self", "value"]) fun _ _ _ _ _ _ us hl => match us, hl with | [_, _], _ => rfl
  case p_m_Term___contains__ => exact ⟨h_a_Term___contains__, h_i_Term___contains__, h_k_Term___contains__⟩
  case p_Term___len__ => exact fun_mk (st := s_Term___len__) h_l_Term___len__ h_c_Term___len__ h_k_Term___len__
  case p_b_Term___len__ => exact (fun_mk (st := s_Term___len__) h_l_Term___len__ h_c_Term___len__ h_k_Term___len__).binds (ps := ["self"]) fun _ _ _ _ _ _ us hl => match us, hl with | [_], _ => rfl
  case p_m_Term___len__ => exact ⟨h_a_Term___len__, h_i_Term___len__, h_k_Term___len__⟩
  case p_Term___eq__ => exact fun_mk (st := s_Term___eq__) h_l_Term___eq__ h_c_Term___eq__ h_k_Term___eq__
  case p_b_Term___eq__ => exact (fun_mk (st := s_Term___eq__) h_l_Term___eq__ h_c_Term___eq__ h_k_Term___eq__).binds (ps := ["self", "other"]) fun _ _ _ _ _ _ us hl => match us, hl with | [_, _], _ => rfl
  case p_m_Term___eq__ => exact ⟨h_a_Term___eq__, h_i_Term___eq__, h_k_Term___eq__⟩
  case p_nx_Term_int => exact h_nx_Term_int
  case p_nx_Term_tuple => exact h_nx_Term_tuple
  case p_nx_Term_NoneType => exact h_nx_Term_NoneType
  case p_nx_Term_bool => exact h_nx_Term_bool
  case p_nx_Term_list => exact h_nx_Term_list
  case p_nx_Term_dict => exact h_nx_Term_dict
  case p_nf_Term => exact h_nf_Term
  case p_ne_Term => exact h_ne_Term
  case p_Term_within => exact fun_mk (st := s_Term_within) h_l_Term_within h_c_Term_within h_k_Term_within
  case p_b_Term_within => exact (fun_mk (st := s_Term_within) h_l_Term_within h_c_Term_within h_k_Term_within).binds (ps := ["self", "other"]) fun _ _ _ _ _ _ us hl => match us, hl with | [_, _], _ => rfl
  case p_m_Term_within => exact ⟨h_a_Term_within, h_i_Term_within, h_k_Term_within⟩
  case p_no_Term_tree => exact h_no_Term_tree
  case p__law_pool => exact ⟨PySem.W.mg_of X G h_a__law_pool, fun_mk (st := s__law_pool) h_l__law_pool h_c__law_pool h_k__law_pool, (fun_mk (st := s__law_pool) h_l__law_pool h_c__law_pool h_k__law_pool).binds (ps := ["script", "k"]) fun _ _ _ _ _ _ us hl => match us, hl with | [_, _], _ => rfl⟩
  case p__law_take => exact ⟨PySem.W.mg_of X G h_a__law_take, fun_mk (st := s__law_take) h_l__law_take h_c__law_take h_k__law_take, (fun_mk (st := s__law_take) h_l__law_take h_c__law_take h_k__law_take).binds (ps := ["pool", "bound"]) fun _ _ _ _ _ _ us hl => match us, hl with | [_, _], _ => rfl⟩
  case p__law_one => exact ⟨PySem.W.mg_of X G h_a__law_one, fun_mk (st := s__law_one) h_l__law_one h_c__law_one h_k__law_one, (fun_mk (st := s__law_one) h_l__law_one h_c__law_one h_k__law_one).binds (ps := ["pool", "things"]) fun _ _ _ _ _ _ us hl => match us, hl with | [_, _], _ => rfl⟩
  case p__law_words => exact ⟨PySem.W.mg_of X G h_a__law_words, fun_mk (st := s__law_words) h_l__law_words h_c__law_words h_k__law_words, (fun_mk (st := s__law_words) h_l__law_words h_c__law_words h_k__law_words).binds (ps := ["pool", "bound"]) fun _ _ _ _ _ _ us hl => match us, hl with | [_, _], _ => rfl⟩
  case p__law_tree => exact ⟨PySem.W.mg_of X G h_a__law_tree, fun_mk (st := s__law_tree) h_l__law_tree h_c__law_tree h_k__law_tree, (fun_mk (st := s__law_tree) h_l__law_tree h_c__law_tree h_k__law_tree).binds (ps := ["pool", "words", "digits", "deep"]) fun _ _ _ _ _ _ us hl => match us, hl with | [_, _, _, _], _ => rfl⟩
  case p__law_tree_text => exact ⟨PySem.W.mg_of X G h_a__law_tree_text, fun_mk (st := s__law_tree_text) h_l__law_tree_text h_c__law_tree_text h_k__law_tree_text, (fun_mk (st := s__law_tree_text) h_l__law_tree_text h_c__law_tree_text h_k__law_tree_text).binds (ps := ["tree"]) fun _ _ _ _ _ _ us hl => match us, hl with | [_], _ => rfl⟩
  case p__law_tree_deep => exact ⟨PySem.W.mg_of X G h_a__law_tree_deep, fun_mk (st := s__law_tree_deep) h_l__law_tree_deep h_c__law_tree_deep h_k__law_tree_deep, (fun_mk (st := s__law_tree_deep) h_l__law_tree_deep h_c__law_tree_deep h_k__law_tree_deep).binds (ps := ["tree"]) fun _ _ _ _ _ _ us hl => match us, hl with | [_], _ => rfl⟩
  case p__law_tree_leaves => exact ⟨PySem.W.mg_of X G h_a__law_tree_leaves, fun_mk (st := s__law_tree_leaves) h_l__law_tree_leaves h_c__law_tree_leaves h_k__law_tree_leaves, (fun_mk (st := s__law_tree_leaves) h_l__law_tree_leaves h_c__law_tree_leaves h_k__law_tree_leaves).binds (ps := ["tree"]) fun _ _ _ _ _ _ us hl => match us, hl with | [_], _ => rfl⟩
  case p__law_tree_words => exact ⟨PySem.W.mg_of X G h_a__law_tree_words, fun_mk (st := s__law_tree_words) h_l__law_tree_words h_c__law_tree_words h_k__law_tree_words, (fun_mk (st := s__law_tree_words) h_l__law_tree_words h_c__law_tree_words h_k__law_tree_words).binds (ps := ["tree"]) fun _ _ _ _ _ _ us hl => match us, hl with | [_], _ => rfl⟩
  case p__law_tree_digits => exact ⟨PySem.W.mg_of X G h_a__law_tree_digits, fun_mk (st := s__law_tree_digits) h_l__law_tree_digits h_c__law_tree_digits h_k__law_tree_digits, (fun_mk (st := s__law_tree_digits) h_l__law_tree_digits h_c__law_tree_digits h_k__law_tree_digits).binds (ps := ["tree"]) fun _ _ _ _ _ _ us hl => match us, hl with | [_], _ => rfl⟩
  case p__law_kind_told => exact ⟨PySem.W.mg_of X G h_a__law_kind_told, fun_mk (st := s__law_kind_told) h_l__law_kind_told h_c__law_kind_told h_k__law_kind_told, (fun_mk (st := s__law_kind_told) h_l__law_kind_told h_c__law_kind_told h_k__law_kind_told).binds (ps := ["tree"]) fun _ _ _ _ _ _ us hl => match us, hl with | [_], _ => rfl⟩
  case p__law_told => exact ⟨PySem.W.mg_of X G h_a__law_told, fun_mk (st := s__law_told) h_l__law_told h_c__law_told h_k__law_told, (fun_mk (st := s__law_told) h_l__law_told h_c__law_told h_k__law_told).binds (ps := ["term"]) fun _ _ _ _ _ _ us hl => match us, hl with | [_], _ => rfl⟩
  case p__law_due => exact ⟨PySem.W.mg_of X G h_a__law_due, fun_mk (st := s__law_due) h_l__law_due h_c__law_due h_k__law_due, (fun_mk (st := s__law_due) h_l__law_due h_c__law_due h_k__law_due).binds (ps := ["tree"]) fun _ _ _ _ _ _ us hl => match us, hl with | [_], _ => rfl⟩
  case p_law => exact ⟨PySem.W.mg_of X G h_a_law, fun_mk (st := s_law) h_l_law h_c_law h_k_law, (fun_mk (st := s_law) h_l_law h_c_law h_k_law).binds (ps := ["script"]) fun _ _ _ _ _ _ us hl => match us, hl with | [_], _ => rfl⟩
  case p_blaw => exact fun s v => .of_eq rfl
  case p_bi => exact ⟨PySem.W.mg_none_of X G h_b_len, PySem.W.mg_none_of X G h_b_max, PySem.W.mg_none_of X G h_b_min, PySem.W.mg_none_of X G h_b_int, PySem.W.mg_none_of X G h_b_str, PySem.W.mg_none_of X G h_b_tuple, PySem.W.mg_none_of X G h_b_list, PySem.W.mg_none_of X G h_b_bool, PySem.W.mg_none_of X G h_b_dict, PySem.W.mg_none_of X G h_b_set, PySem.W.mg_none_of X G h_b_isinstance, PySem.W.mg_none_of X G h_b_sorted, PySem.W.mg_none_of X G h_b_repr, PySem.W.mg_none_of X G h_b_range, PySem.W.mg_none_of X G h_b_enumerate, PySem.W.mg_none_of X G h_b_zip, PySem.W.mg_none_of X G h_b_sum, PySem.W.mg_none_of X G h_b_all, PySem.W.mg_none_of X G h_b_any⟩
  case p_tn => exact h_tn
  case p_tt => exact h_tt
end Z
set_option maxRecDepth 100000
set_option maxHeartbeats 4000000
namespace Z
open PySem PySem.Spec PyProof.Rows L2
section
variable {P : Program} {w : World} {K : PySem.W.Frag} {mg : Str → Option Value} {base : Heap} {a : Ad}
def spWhole (K : PySem.W.Frag) : Sp := fun vs H Q _ => ∃ (x : V) (t : String) (r1 r2 : Bool), vs = [x] ∧ TyX K H x (.type t) ∧ kitB t "int" = some r1 ∧ kitB t "bool" = some r2 ∧ Q (.bl (r1 && !r2)) H
theorem ok_whole (T : Tx P K mg a) : FnOk P w K mg base CX0 1 a.f_is_whole a.d_is_whole ["value"] (spWhole K) := by
  refine T.is_whole.fn.ok sc_is_whole (fun vs H Q E h => ?_) (fun cdv A outer s H vs Q E hr h => ?_)
  · obtain ⟨x, t, r1, r2, rfl, _⟩ := h
    rfl
  · obtain ⟨x, t, r1, r2, rfl, ty, k1, k2, q⟩ := h
    refine ⟨_, (pss_one (ps_ret (pe_and (cb_isi T.bi (pa_cons (pv 0) (pa_cons (gl_ty rfl T.bi.int PyProof.Rows.boot_int) pa_nil))) (pe_one (pe_not (cb_isi T.bi (pa_cons (pv 0) (pa_cons (gl_ty rfl T.bi.bool PyProof.Rows.boot_bool) pa_nil)))))))), ?_⟩
    refine ⟨_, rfl, isiTy ty k1 ?_⟩
    cases r1 with
    | true =>
      refine ⟨_, rfl, ?_⟩
      refine ⟨_, rfl, isiTy ty k2 ?_⟩
      exact ⟨_, rfl, q⟩
    | false => exact ⟨_, rfl, q⟩
def spNumber (K : PySem.W.Frag) : Sp := fun vs H Q _ => ∃ (x : V) (lo hi : Int), vs = [x, .int lo, .int hi] ∧ ((∃ n, x = .int n ∧ Q (.bl (decide (lo ≤ n) && decide (n ≤ hi))) H) ∨ (∃ (t : String) (r1 r2 : Bool), TyX K H x (.type t) ∧ kitB t "int" = some r1 ∧ kitB t "bool" = some r2 ∧ (r1 && !r2) = false ∧ Q (.bl false) H))
theorem ok_number (T : Tx P K mg a) : FnOk P w K mg base CX0 2 a.f_is_number a.d_is_number ["value", "low", "high"] (spNumber K) := by
  have F1 : FnOk P w K mg base CX0 1 a.f_is_whole a.d_is_whole ["value"] (spWhole K) := ok_whole T
  refine T.is_number.fn.ok sc_is_number (fun vs H Q E h => ?_) (fun cdv A outer s H vs Q E hr h => ?_)
  · obtain ⟨x, lo, hi, rfl, _⟩ := h
    rfl
  · obtain ⟨x, lo, hi, rfl, h⟩ := h
    refine ⟨_, (pss_one (ps_ret (pe_and (pe_cf T.is_whole F1 hr (pa_cons (pv 0) pa_nil)) (pe_one (pe_chain op_le op_le (pv 1) (pv 0) (pv 2)))))), ?_⟩
    rcases h with ⟨n, rfl, q⟩ | ⟨t, r1, r2, ty, k1, k2, e, q⟩
    · refine ⟨_, rfl, _, "int", true, false, rfl, .base (.int n), k_ii, k_ib, ?_⟩
      refine ⟨_, rfl, ?_⟩
      refine ⟨_, rfl, _, rfl, lo, n, rfl, rfl, _, rfl, ?_⟩
      by_cases h1 : lo ≤ n
      · rw [decide_eq_true h1]
        refine ⟨_, rfl, n, hi, rfl, rfl, ?_⟩
        rw [decide_eq_true h1, Bool.true_and] at q
        exact q
      · rw [decide_eq_false h1]
        rw [decide_eq_false h1, Bool.false_and] at q
        exact q
    · refine ⟨_, rfl, _, t, r1, r2, rfl, ty, k1, k2, ?_⟩
      rw [e]
      exact ⟨_, rfl, q⟩
def spWord : Sp := fun vs H Q _ => ∃ z : Str, vs = [.str z] ∧ z.length ≤ sizeLine ∧ ∀ H', Same H H' → Q (.bl (wordB (ls z))) H'
theorem ok_word (T : Tx P K mg a) : FnOk P w K mg base CX0 1 a.f_is_word a.d_is_word ["value"] spWord := by
  refine T.is_word.fn.ok sc_is_word (fun vs H Q E h => ?_) (fun cdv A outer s H vs Q E hr h => ?_)
  · obtain ⟨z, rfl, _⟩ := h
    rfl
  · obtain ⟨z, rfl, hz, q⟩ := h
    have nd := sc_is_word.nd
    refine ⟨_, (pss_cons (ps_if (PW.pt (pw_or (pt_not (pt_val (cb_isi T.bi (pa_cons (pv 0) (pa_cons (gl_ty rfl T.bi.str PyProof.Rows.boot_str) pa_nil))))) (pw_or1 (pt_not (pt_chain op_le op_le pe_int (cb_len T.bi (pa_cons (pv 0) pa_nil)) (pe_gi T.v_MOST_LETTERS))))))
      (pss_one (ps_ret pe_bl)) pss_nil)
      (pss_one (ps_ret (pe_cmpR (op_eqX hr) (pe_lc (own := [("sign", 1)]) (by rfl) nd (pi_str (pv 0)) (blkOk_by (own := [("sign", 1)]) (N := ["value", "sign"]) (sc := defScope s_is_word) (by decide +kernel)) (fun _ _ _ _ _ => (pg_name (i := 1) nd rfl (Or.inl rfl))) (fun _ _ _ _ _ => pts_one (pt_cmpR (op_notInA (K := K)) (pv 1) (pe_gs T.v_LETTERS) rfl)) (fun _ _ _ _ _ => (pv 1))) (pe_lst pa_nil) (nomark _))))), ?_⟩
    refine ⟨_, rfl, isiTy (.base (.str z)) k_ss ?_⟩
    refine ⟨_, rfl, ?_⟩
    refine ⟨_, rfl, lenS hz ?_⟩
    refine ⟨1, _, rfl, rfl, _, rfl, ?_⟩
    have L : (z.length : Int) = ((ls z).length : Int) := by rw [ls_len]
    by_cases h1 : (1 : Int) ≤ (z.length : Int)
    · rw [decide_eq_true h1]
      refine ⟨_, 8, rfl, rfl, ?_⟩
      by_cases h2 : (z.length : Int) ≤ 8
      · refine ⟨_, rfl, ?_⟩
        rw [decide_eq_true h2]
        have hw : wordB (ls z) = (ls z).all isLB := by
          unfold wordB
          rw [decide_eq_true (show 1 ≤ (ls z).length by omega), decide_eq_true (show (ls z).length ≤ 8 by omega)]
          rfl
        refine ⟨_, rfl, z, rfl, fun D hD => ?_⟩
        refine lc_it (walk_str (z := z)) (fun i H' => ∃ acc : List V, H' D = some (.lst acc) ∧ Same H H' ∧ acc.length ≤ i ∧ acc.isEmpty = ((ls z).take i).all isLB) ⟨[], upd_same, sNew hD, Nat.le_refl _, rfl⟩ (fun _ _ _ _ => trivial) ?_ ?_
        · rintro i x H1 H1' hi ⟨acc, hA, sm, ln, em⟩ ⟨rfl, c, hc, rfl⟩
          refine ⟨rfl, _, rfl, ninSgn ?_⟩
          have hc' : (ls z)[i]? = some c := by
            show z.cps.toList[i]? = some c
            rw [Array.getElem?_toList]
            exact hc
          have tk : (ls z).take (i + 1) = (ls z).take i ++ [c] := by rw [List.take_succ, hc']; rfl
          refine ⟨_, rfl, ?_⟩
          rw [mem_let']
          cases hl : isLB c with
          | true => exact ⟨acc, hA, sm, Nat.le_succ_of_le ln, by rw [tk, List.all_append, ← em]; simp [hl]⟩
          | false =>
            have small : acc.length < sizeLine := by
              have : i < z.length := hi
              omega
            refine ⟨_, rfl, acc, hA, small, acc ++ [.str ⟨#[c]⟩], upd_same, fun b o e => ?_, by rw [List.length_append]; exact Nat.succ_le_succ ln, ?_⟩
            · rw [upd_ne (ne_of_none e hD)]
              exact sm b o e
            · rw [tk, List.all_append]
              simp [hl]
        · rintro H1 ⟨acc, hA, sm, ln, em⟩
          refine ⟨Nat.zero_le _, fun p hp => ?_⟩
          refine eqL0 (.inl (.inl (by rw [upd_ne (ne_of_none hA hp)]; exact hA))) upd_same ?_
          have : (ls z).take z.cps.size = ls z := List.take_of_length_le (by simp [ls])
          rw [em, this, ← hw]
          exact q _ (sm.trans (sNew hp))
      · refine ⟨_, rfl, ?_⟩
        rw [decide_eq_false h2]
        have hw : wordB (ls z) = false := by
          unfold wordB
          rw [decide_eq_false (show ¬ (ls z).length ≤ 8 by omega), Bool.and_false, Bool.false_and]
        rw [hw] at q
        exact q _ (fun _ _ e => e)
    · rw [decide_eq_false h1]
      have hw : wordB (ls z) = false := by
        unfold wordB
        rw [decide_eq_false (show ¬ 1 ≤ (ls z).length by omega), Bool.false_and, Bool.false_and]
      rw [hw] at q
      exact ⟨_, rfl, q _ (fun _ _ e => e)⟩
def spDigit : Sp := fun vs H Q _ => ∃ c : Nat, vs = [.str (tx [c])] ∧ Q (.bl (isDB c)) H
theorem ok_digit (T : Tx P K mg a) : FnOk P w K mg base CX0 1 a.f_is_digit a.d_is_digit ["value"] spDigit := by
  refine T.is_digit.fn.ok sc_is_digit (fun vs H Q E h => ?_) (fun cdv A outer s H vs Q E hr h => ?_)
  · obtain ⟨z, rfl, _⟩ := h
    rfl
  · obtain ⟨c, rfl, q⟩ := h
    refine ⟨_, (pss_one (ps_ret (pe_and (cb_isi T.bi (pa_cons (pv 0) (pa_cons (gl_ty rfl T.bi.str PyProof.Rows.boot_str) pa_nil))) (pe_and (pe_cmpR (op_eqX hr) (cb_len T.bi (pa_cons (pv 0) pa_nil)) pe_int (nomark _)) (pe_one (pe_cmpR op_inA (pv 0) (pe_gs T.v_DIGITS) rfl)))))), ?_⟩
    refine ⟨_, rfl, isiTy (.base (.str _)) k_ss ?_⟩
    refine ⟨_, rfl, ?_⟩
    refine ⟨_, rfl, lenS (by rw [tx_len]; show 1 ≤ sizeLine; decide) ?_⟩
    refine eqI ?_
    rw [tx_len]
    refine ⟨_, rfl, ?_⟩
    refine ⟨_, rfl, inSgn ?_⟩
    rw [mem_dig']
    exact q
theorem take_next {l : List Nat} {i : Nat} {c : Nat} (h : l[i]? = some c) : l.drop i = c :: l.drop (i + 1) := by
  obtain ⟨h1, h2⟩ := List.getElem?_eq_some_iff.mp h
  rw [List.drop_eq_getElem_cons h1, h2]
def spWordAt : Sp := fun vs H Q _ => ∃ (z : Str) (i : Nat), vs = [.str z, .int i] ∧ i ≤ z.length ∧ z.length ≤ sizeLine ∧ Q (.str (tx (((ls z).drop i).takeWhile isLB))) H
theorem ok_word_at (T : Tx P K mg a) : FnOk P w K mg base CX0 1 a.f_word_at a.d_word_at ["text", "at"] spWordAt := by
  refine T.word_at.fn.ok sc_word_at (fun vs H Q E h => ?_) (fun cdv A outer s H vs Q E hr h => ?_)
  · obtain ⟨z, i, rfl, _⟩ := h
    rfl
  · obtain ⟨z, i, rfl, hi, hz, q⟩ := h
    have nd := sc_word_at.nd
    refine ⟨_, (pss_cons (ps_set (i := 2) nd rfl (Or.inl rfl) (pv 1))
      (pss_cons (ps_while PassesOwn.never (PW.pt (pw_and (pt_cmpR op_lt (pv 2) (cb_len T.bi (pa_cons (pv 0) pa_nil)) (nomark _)) (pw_and1 (pt_cmpR op_inA (pe_ix ix_A (pv 0) (pv 2) (fun _ _ => rfl)) (pe_gs T.v_LETTERS) rfl))))
        (pss_one (ps_aug (i := 2) nd rfl (Or.inl rfl) pe_int ip_add)))
      (pss_one (ps_ret (pe_slice sl_str (pv 0) (po_some (pv 1)) (po_some (pv 2))))))), ?_⟩
    refine ⟨_, rfl, ?_⟩
    refine ⟨fun m σ H' => ∃ j : Nat, m = z.length - j ∧ i ≤ j ∧ j ≤ z.length ∧ H' = H ∧ σ = [some (.str z), some (.int (i : Nat)), some (.int (j : Nat))] ∧ ((ls z).drop i).takeWhile isLB = ((ls z).drop i).take (j - i) ++ ((ls z).drop j).takeWhile isLB,
      ⟨_, i, rfl, Nat.le_refl _, hi, rfl, rfl, by rw [Nat.sub_self]; rfl⟩, ?_⟩
    rintro m σ H' ⟨j, rfl, hij, hj, rfl, rfl, tw⟩
    refine ⟨_, rfl, _, rfl, lenS hz ?_⟩
    have fin : ((ls z).drop j).takeWhile isLB = [] → Q (.str (cutS z (some (i : Nat)) (some (j : Nat)))) H' := fun e => by
      have : cutS z (some (i : Nat)) (some (j : Nat)) = tx (((ls z).drop i).takeWhile isLB) := by
        rw [tw, e, List.append_nil]
        unfold cutS tx
        rw [HT.sIx_nat, HT.sIx_nat, Nat.min_eq_left hi, Nat.min_eq_left hj]
        rfl
      rw [this]
      exact q
    refine ⟨_, _, rfl, rfl, _, rfl, ?_⟩
    by_cases hl : j < z.length
    · rw [decide_eq_true (Int.ofNat_lt.mpr hl)]
      obtain ⟨c, hc⟩ : ∃ c, (ls z)[j]? = some c := ⟨_, List.getElem?_eq_getElem (by rw [ls_len]; exact hl)⟩
      refine ⟨_, rfl, _, rfl, ixS hz hc ?_⟩
      refine inSgn ?_
      rw [mem_let']
      have dj := take_next hc
      refine ⟨_, rfl, ?_⟩
      cases lb : isLB c with
      | true =>
        refine ⟨_, fun σ' H' h => h, ?_⟩
        refine ⟨_, rfl, _, _, rfl, rfl, ?_⟩
        refine ⟨z.length - (j + 1), by omega, j + 1, rfl, by omega, hl, rfl, by simp, ?_⟩
        rw [tw, dj, List.takeWhile_cons, if_pos lb]
        rw [show j + 1 - i = (j - i) + 1 by omega, List.take_succ]
        have : ((ls z).drop i)[j - i]? = some c := by
          rw [List.getElem?_drop, show i + (j - i) = j by omega]
          exact hc
        rw [this]
        simp
      | false =>
        refine ⟨_, rfl, _, rfl, _, rfl, _, rfl, _, rfl, z, rfl, hz, ?_⟩
        exact fin (by rw [dj, List.takeWhile_cons, lb]; rfl)
    · rw [decide_eq_false (fun h => hl (Int.ofNat_lt.mp h))]
      exact ⟨_, rfl, _, rfl, _, rfl, _, rfl, _, rfl, z, rfl, hz, fin (by rw [List.drop_eq_nil_of_le (by rw [ls_len]; omega)]; rfl)⟩
end
end Z
set_option maxRecDepth 100000
set_option maxHeartbeats 4000000
namespace Z
open PySem PySem.Spec PyProof.Rows L2
theorem tx1 {a b : Nat} : tx [a] = tx [b] ↔ a = b := by
  constructor
  · intro h
    have := congrArg ls h
    rw [ls_tx, ls_tx] at this
    simpa using this
  · rintro rfl
    rfl
theorem dig_int {c : Nat} (h : isDB c = true) : PySem.intText? (tx [c]) = some ((c : Int) - 48) := by
  have : c = 48 ∨ c = 49 ∨ c = 50 ∨ c = 51 ∨ c = 52 ∨ c = 53 ∨ c = 54 ∨ c = 55 ∨ c = 56 ∨ c = 57 := by
    unfold isDB at h
    simp at h
    omega
  rcases this with rfl | rfl | rfl | rfl | rfl | rfl | rfl | rfl | rfl | rfl <;> decide +kernel
theorem drop_word {l : List Nat} {i : Nat} {p : Nat → Bool} : l.drop (i + ((l.drop i).takeWhile p).length) = (l.drop i).dropWhile p := by
  rw [← List.drop_drop]
  have := List.takeWhile_append_dropWhile (p := p) (l := l.drop i)
  conv => lhs; arg 2; rw [← this]
  exact List.drop_left
def Got (K : PySem.W.Frag) (H : Hp) (z : Str) (v : V) : Option (Tr × List Nat) → Prop
  | none => v = .non
  | some (t, r) => ∃ (p : Addr) (j : Nat) (u : V), v = .ref p ∧ j ≤ z.length ∧ (ls z).drop j = r ∧ H p = some (.tup [u, .int (j : Nat)]) ∧ Dp K H u t.d
def spPlanAt (K : PySem.W.Frag) (d : Nat) : Sp := fun vs H Q _ => ∃ (z : Str) (i : Nat), vs = [.str z, .int (i : Nat), .int (d : Nat)] ∧ i ≤ z.length ∧ z.length ≤ sizeLine ∧ 1 ≤ d ∧ ∀ v H', Same H H' → Got K H' z v (pl d ((ls z).drop i)) → Q v H'
def codes : List Nat := [61, 63, 58, 41]
def plm (us : List Tr) : Option (List Tr × List Nat) → Option (List Tr × List Nat)
  | some (ts, q) => some (us ++ ts, q)
  | none => none
theorem dpAll_tk {K : PySem.W.Frag} {H H' : Hp} (k : TK H H') : ∀ {us : List V} {ts : List Tr}, DpAll K H us (ts.map Tr.d) → DpAll K H' us (ts.map Tr.d)
  | _, [], h => by
    cases h
    exact .nil
  | _, t :: ts, h => by
    cases h with
    | cons h1 h2 => exact .cons (tr_tk k t h1) (dpAll_tk k h2)
section
variable {P : Program} {w : World} {K : PySem.W.Frag} {mg : Str → Option Value} {base : Heap} {a : Ad}
theorem fnNo {CX : CXT} {k : Nat} {f : Addr} {fd : FuncData} {ps : List Str} {sp : Sp} (h : ∀ vs H Q E, sp vs H Q E → False) : FnOk P w K mg base CX k f fd ps sp :=
  ⟨fun vs H Q E z => (h _ _ _ _ z).elim, fun A outer s H args us vs Q E _ _ _ _ z => (h _ _ _ _ z).elim⟩
theorem ok_plan_at (T : Tx P K mg a) : ∀ d : Nat, FnOk P w K mg base CX0 (d + 1) a.f_plan_at a.d_plan_at ["text", "at", "deep"] (spPlanAt K d)
  | 0 => fnNo fun vs H Q E ⟨z, i, _, _, _, h, _⟩ => by omega
  | d + 1 => by
    have IH : FnOk P w K mg base CX0 (d + 1) a.f_plan_at a.d_plan_at ["text", "at", "deep"] (spPlanAt K d) := ok_plan_at T d
    have Fd : FnOk P w K mg base CX0 1 a.f_is_digit a.d_is_digit ["value"] spDigit := ok_digit T
    have Fw : FnOk P w K mg base CX0 1 a.f_is_word a.d_is_word ["value"] spWord := ok_word T
    have Fa : FnOk P w K mg base CX0 1 a.f_word_at a.d_word_at ["text", "at"] spWordAt := ok_word_at T
    refine T.plan_at.fn.ok sc_plan_at (fun vs H Q E h => ?_) (fun cdv A outer s H vs Q E hr h => ?_)
    · obtain ⟨z, i, rfl, _⟩ := h
      rfl
    · obtain ⟨z, i, rfl, hi, hz, _, q⟩ := h
      have nd := sc_plan_at.nd
      have hr1 : Room 1 _ := hr.mono (by omega)
      refine ⟨_, (pss_cons (ps_if (PW.pt (pw_and (pt_cmpR op_lt (pv 1) (cb_len T.bi (pa_cons (pv 0) pa_nil)) (nomark _)) (pw_and1 (pt_val (pe_cf T.is_digit Fd hr1 (pa_cons (pe_ix ix_A (pv 0) (pv 1) (fun _ _ => rfl)) pa_nil))))))
        (pss_one (ps_ret (pe_tup (pa_cons (cb_int T.bi (pa_cons (pe_ix ix_A (pv 0) (pv 1) (fun _ _ => rfl)) pa_nil)) (pa_cons (pe_op op_addA (pv 1) pe_int) pa_nil))))) pss_nil)
        (pss_cons (ps_set (i := 3) nd rfl (Or.inl rfl) (pe_cf T.word_at Fa hr1 (pa_cons (pv 0) (pa_cons (pv 1) pa_nil))))
        (pss_cons (ps_if (pt_val (pe_cf T.is_word Fw hr1 (pa_cons (pv 3) pa_nil)))
          (pss_one (ps_ret (pe_tup (pa_cons (pv 3) (pa_cons (pe_op op_addA (pv 1) (cb_len T.bi (pa_cons (pv 3) pa_nil))) pa_nil))))) pss_nil)
        (pss_cons (ps_if (PW.pt (pw_or (pt_cmpR op_ge (pv 1) (cb_len T.bi (pa_cons (pv 0) pa_nil)) (nomark _)) (pw_or (pt_cmpR (op_neX hr) (pe_ix ix_A (pv 0) (pv 1) (fun _ _ => rfl)) (pe_ix ix_A (pe_gr T.v_SIGNS) pe_int (fun _ _ => rfl)) (nomark _)) (pw_or1 (pt_cmpR (op_eqX hr) (pv 2) pe_int (nomark _))))))
          (pss_one (ps_ret pe_non)) pss_nil)
        (pss_cons (ps_set (i := 4) nd rfl (Or.inl rfl) (pe_lst pa_nil))
        (pss_cons (ps_for PassesOwn.never rfl (pi_tup (pe_slice sl_tupA (pe_gr T.v_SIGNS) (po_some pe_int) po_none)) (pg_name (i := 5) nd rfl (Or.inl rfl))
          (pss_cons (ps_set (i := 6) nd rfl (Or.inl rfl) (pe_cf T.plan_at IH hr (pa_cons (pv 0) (pa_cons (pe_op op_addA (pv 1) pe_int) (pa_cons (pe_op op_sub (pv 2) pe_int) pa_nil)))))
          (pss_cons (ps_if (PW.pt (pw_or (pt_cmp (pc_isN (pv 6))) (pw_or (pt_cmpR op_ge (pe_ix ix_A (pv 6) pe_int (fun _ _ => rfl)) (cb_len T.bi (pa_cons (pv 0) pa_nil)) (nomark _)) (pw_or1 (pt_cmpR (op_neX hr) (pe_ix ix_A (pv 0) (pe_ix ix_A (pv 6) pe_int (fun _ _ => rfl)) (fun _ _ => rfl)) (pv 5) (nomark _))))))
            (pss_one (ps_ret pe_non)) pss_nil)
          (pss_cons (ps_asg (pv 6) (pg_tup rfl (pgs_cons (pg_name (i := 7) nd rfl (Or.inl rfl)) (pgs_cons (pg_name (i := 1) nd rfl (Or.inl rfl)) pgs_nil))))
          (pss_one (ps_expr (pe_bm PySem.F.plainAttrs_list PySem.F.slot_list_append PySem.F.type_list_append mt_append (pv 4) (pa_cons (pv 7) pa_nil))))))))
        (pss_one (ps_ret (pe_tup (pa_cons (cb_tuple T.bi (pa_cons (pv 4) pa_nil)) (pa_cons (pe_op op_addA (pv 1) pe_int) pa_nil))))))))))), ?_⟩
      refine ⟨_, rfl, _, rfl, lenS hz ?_⟩
      refine ⟨_, _, rfl, rfl, _, rfl, ?_⟩
      by_cases hl : i < z.length
      · rw [decide_eq_true (Int.ofNat_lt.mpr hl)]
        obtain ⟨c, hc⟩ : ∃ c, (ls z)[i]? = some c := ⟨_, List.getElem?_eq_getElem (by rw [ls_len]; exact hl)⟩
        have dj := take_next hc
        rw [dj] at q
        refine ⟨_, rfl, _, rfl, ixS hz hc ?_⟩
        refine ⟨c, rfl, ?_⟩
        refine ⟨_, rfl, ?_⟩
        have e1 : (i : Int) + 1 = ((i + 1 : Nat) : Int) := rfl
        cases hd : isDB c with
        | true =>
          refine ⟨_, rfl, _, rfl, ixS hz hc ?_⟩
          refine intS (dig_int hd) (by rw [tx_len]; show 1 ≤ 640; decide) ?_
          refine ⟨_, rfl, ?_⟩
          refine addI ?_
          refine ⟨by show 2 ≤ sizeLine; decide, fun p hp => ?_⟩
          refine q _ _ (sNew hp) ?_
          unfold pl
          rw [if_pos hd]
          exact ⟨p, i + 1, _, rfl, hl, rfl, upd_same, .int _⟩
        | false =>
          refine ⟨_, rfl, _, rfl, z, i, rfl, hi, hz, ?_⟩
          rw [dj]
          generalize hw : (c :: (ls z).drop (i + 1)).takeWhile isLB = l
          have ll : l.length ≤ z.length := by
            have h1 := (List.takeWhile_sublist (p := isLB) (l := c :: (ls z).drop (i + 1))).length_le
            rw [hw, ← dj, List.length_drop, ls_len] at h1
            omega
          refine ⟨_, rfl, tx l, rfl, by rw [tx_len]; omega, fun H1 s1 => ?_⟩
          refine ⟨_, rfl, ?_⟩
          rw [ls_tx]
          cases hwb : wordB l with
          | true =>
            refine ⟨_, rfl, _, rfl, _, rfl, lenS (by rw [tx_len]; omega) ?_⟩
            refine addI ?_
            refine ⟨by show 2 ≤ sizeLine; decide, fun p hp => ?_⟩
            refine q _ _ (s1.trans (sNew hp)) ?_
            unfold pl
            rw [if_neg (by rw [hd]; exact Bool.false_ne_true), hw, if_pos hwb]
            refine ⟨p, i + l.length, _, rfl, ?_, ?_, ?_, .str _⟩
            · have h1 := (List.takeWhile_sublist (p := isLB) (l := c :: (ls z).drop (i + 1))).length_le
              rw [hw, ← dj, List.length_drop, ls_len] at h1
              omega
            · rw [← hw, ← dj]
              exact drop_word
            · rw [tx_len, upd_same]
              rfl
          | false =>
            have plk : pl (d + 1) (c :: (ls z).drop (i + 1)) = if c ≠ 40 ∨ d = 0 then none else plx (plp (pl d) codes ((ls z).drop (i + 1))) := by
              conv => lhs; unfold pl
              rw [if_neg (by rw [hd]; exact Bool.false_ne_true), hw, if_neg (by rw [hwb]; exact Bool.false_ne_true)]
              rfl
            refine ⟨_, rfl, _, rfl, lenS hz ?_⟩
            refine ⟨_, _, rfl, rfl, _, rfl, ?_⟩
            rw [decide_eq_false (show ¬ (z.length : Int) ≤ (i : Int) by omega)]
            refine ⟨_, rfl, _, rfl, ixS hz hc ?_⟩
            refine ixT (i := 0) (T.w_SIGNS _) rfl ?_
            refine neS ?_
            refine ⟨_, rfl, ?_⟩
            by_cases h40 : c = 40
            · subst h40
              rw [decide_eq_true (show tx [40] = ("(" : Str) by decide +kernel)]
              refine ⟨_, rfl, eqI ?_⟩
              refine ⟨_, rfl, ?_⟩
              by_cases h0 : d = 0
              · subst h0
                refine q _ _ s1 ?_
                rw [plk, if_pos (.inr rfl)]
                rfl
              · rw [decide_eq_false (show ¬ ((d + 1 : Nat) : Int) = 1 by omega)]
                rw [plk, if_neg (by omega)] at q
                refine ⟨Nat.zero_le _, fun l0 hl0 => ?_⟩
                refine ⟨1, rfl, a.v_SIGNS, [V.str "(", .str "=", .str "?", .str ":", .str ")"], rfl, T.w_SIGNS _, fun h => absurd h.1 (by decide), fun _ p0 hp0 => ?_⟩
                have cv : cutV [V.str "(", .str "=", .str "?", .str ":", .str ")"] (some 1) none = [V.str "=", .str "?", .str ":", .str ")"] := rfl
                rw [cv]
                have s2 : Same H (upd (upd H1 l0 (.lst [])) p0 (.tup [V.str "=", .str "?", .str ":", .str ")"])) := (s1.trans (sNew hl0)).trans (sNew hp0)
                have n0 : l0 ≠ p0 := ne_of_none (H := upd H1 l0 (.lst [])) upd_same hp0
                refine ⟨p0, rfl, ⟨_, .inl (.inl upd_same)⟩, ?_⟩
                refine for_it (walk_tup (xs := [V.str "=", .str "?", .str ":", .str ")"])) (fun n σ H' => ∃ (ts : List Tr) (us : List V) (j : Nat) (o5 o6 o7 : Option V), σ = [some (.str z), some (.int (j : Nat)), some (.int ((d + 1 : Nat) : Int)), some (.str (tx l)), some (.ref l0), o5, o6, o7] ∧
                    H' l0 = some (.lst us) ∧ DpAll K H' us (ts.map Tr.d) ∧ ts.length = n ∧ j < z.length ∧ Same H H' ∧ H' p0 = some (.tup [V.str "=", .str "?", .str ":", .str ")"]) ∧
                    plp (pl d) codes ((ls z).drop (i + 1)) = plm ts (plp (pl d) (codes.drop n) ((ls z).drop (j + 1))))
                  ⟨[], [], i, none, none, none, rfl, by rw [upd_ne n0, upd_same], .nil, rfl, hl, s2, upd_same, ?_⟩ (fun n σ H' _ ⟨ts, us, j, o5, o6, o7, _, _, _, _, _, _, hp, _⟩ => .inl (.inl hp)) ?_ ?_
                · show _ = plm [] (plp (pl d) codes ((ls z).drop (i + 1)))
                  cases plp (pl d) codes ((ls z).drop (i + 1)) with
                  | none => rfl
                  | some x => rfl
                · rintro n x σ H2 H2' hn ⟨ts, us, j, o5, o6, o7, rfl, hL, hD, lenT, hj, s3, hP, hp⟩ ⟨rfl, hx⟩
                  obtain ⟨sg, hsg, rfl⟩ : ∃ sg, codes[n]? = some sg ∧ x = .str (tx [sg]) := by
                    have hn' : n < 4 := hn
                    have : n = 0 ∨ n = 1 ∨ n = 2 ∨ n = 3 := by omega
                    rcases this with rfl | rfl | rfl | rfl <;> cases hx
                    · exact ⟨61, rfl, by decide +kernel⟩
                    · exact ⟨63, rfl, by decide +kernel⟩
                    · exact ⟨58, rfl, by decide +kernel⟩
                    · exact ⟨41, rfl, by decide +kernel⟩
                  have dn : codes.drop n = sg :: codes.drop (n + 1) := take_next hsg
                  rw [dn] at hp
                  refine ⟨_, rfl, _, rfl, addI ?_⟩
                  refine ⟨_, rfl, _, _, rfl, rfl, ?_⟩
                  refine ⟨z, j + 1, by show [V.str z, V.int ((j : Int) + 1), V.int (((d + 1 : Nat) : Int) - 1)] = _; rw [show ((d + 1 : Nat) : Int) - 1 = (d : Int) by omega]; rfl, hj, hz, by omega, fun v H3 s4 got => ?_⟩
                  have s5 := s3.trans s4
                  have hL3 := s4 _ _ hL
                  have hP3 := s4 _ _ hP
                  have hD3 := dpAll_same s4 hD
                  refine ⟨_, rfl, ?_⟩
                  cases hf : pl d ((ls z).drop (j + 1)) with
                  | none =>
                    rw [hf] at got
                    obtain rfl : v = .non := got
                    refine ⟨_, rfl, ?_⟩
                    refine q _ _ s5 ?_
                    rw [hp]
                    unfold plp
                    rw [hf]
                    rfl
                  | some tr =>
                    obtain ⟨t, r⟩ := tr
                    rw [hf] at got
                    obtain ⟨pf, jj, u, rfl, hjj, hr', hpf, hdu⟩ := got
                    refine ⟨_, rfl, ?_⟩
                    refine ⟨_, rfl, ixT (i := 1) (.inl (.inl hpf)) rfl ?_⟩
                    refine ⟨_, rfl, lenS hz ?_⟩
                    refine ⟨_, _, rfl, rfl, _, rfl, ?_⟩
                    by_cases hjl : jj < z.length
                    · rw [decide_eq_false (show ¬ (z.length : Int) ≤ (jj : Int) by omega)]
                      obtain ⟨c2, hc2⟩ : ∃ c, (ls z)[jj]? = some c := ⟨_, List.getElem?_eq_getElem (by rw [ls_len]; exact hjl)⟩
                      have dj2 := take_next hc2
                      rw [dj2] at hr'
                      subst hr'
                      refine ⟨_, rfl, _, rfl, ixT (i := 1) (.inl (.inl hpf)) rfl ?_⟩
                      refine ixS hz hc2 ?_
                      refine ⟨_, rfl, neS ?_⟩
                      refine ⟨_, rfl, ?_⟩
                      by_cases hcs : c2 = sg
                      · subst hcs
                        rw [decide_eq_true rfl]
                        refine ⟨_, rfl, pf, _, rfl, .inl (.inl hpf), rfl, ?_⟩
                        have hlen : us.length < sizeLine := by
                          have h1 := DpAll.length hD
                          rw [List.length_map, lenT] at h1
                          rw [h1]
                          have hn' : n < 4 := hn
                          exact Nat.lt_trans hn' (by decide)
                        refine ⟨_, _, rfl, _, _, rfl, rfl, ?_⟩
                        refine ⟨_, rfl, .inl ⟨rfl, us, .inl (.inl hL3)⟩, _, rfl, l0, us, u, rfl, rfl, hL3, hlen, ?_⟩
                        have s6 : Same H (upd H3 l0 (.lst (us ++ [u]))) := fun b o e => by
                          rw [upd_ne (ne_of_none e (s1.free hl0))]
                          exact s5 b o e
                        have tkk : TK H3 (upd H3 l0 (.lst (us ++ [u]))) := TK.lst hL3
                        refine ⟨ts ++ [t], us ++ [u], jj, _, _, _, rfl, upd_same, ?_, by rw [List.length_append, lenT]; rfl, hjl, s6, by rw [upd_ne n0.symm]; exact hP3, ?_⟩
                        · exact dpAll_tk (ts := ts ++ [t]) tkk (by rw [List.map_append]; exact DpAll.app hD3 (.cons hdu .nil))
                        · rw [hp]
                          conv => lhs; unfold plp
                          rw [hf]
                          simp only [if_true]
                          cases plp (pl d) (codes.drop (n + 1)) ((ls z).drop (jj + 1)) with
                          | none => rfl
                          | some y =>
                            obtain ⟨ts2, q2⟩ := y
                            show some (ts ++ t :: ts2, q2) = some ((ts ++ [t]) ++ ts2, q2)
                            rw [List.append_assoc]
                            rfl
                      · rw [decide_eq_false (fun e => hcs (tx1.mp e))]
                        refine q _ _ s5 ?_
                        rw [hp]
                        unfold plp
                        rw [hf]
                        simp only [if_neg hcs]
                        rfl
                    · rw [decide_eq_true (show (z.length : Int) ≤ (jj : Int) by omega)]
                      refine q _ _ s5 ?_
                      have : r = [] := by rw [← hr']; exact List.drop_eq_nil_of_le (by rw [ls_len]; omega)
                      subst this
                      rw [hp]
                      unfold plp
                      rw [hf]
                      rfl
                · rintro σ H2 ⟨ts, us, j, o5, o6, o7, rfl, hL, hD, lenT, hj, s3, hP, hp⟩
                  refine ⟨_, rfl, tupL (.inl (.inl hL)) fun p1 H3 n1 s4 h1 => ?_⟩
                  refine ⟨_, rfl, addI ?_⟩
                  refine ⟨by show 2 ≤ sizeLine; decide, fun p hpn => ?_⟩
                  refine q _ _ ((s3.trans s4).trans (sNew hpn)) ?_
                  rw [hp]
                  match ts, lenT with
                  | [t1, t2, t3, t4], _ =>
                    refine ⟨p, j + 1, _, rfl, hj, rfl, upd_same, ?_⟩
                    have hD' := dpAll_same (s4.trans (sNew hpn (o := .tup [V.ref p1, V.int ((j : Int) + 1)]))) hD
                    exact .tup (.inl (.inl (sNew hpn _ _ h1))) hD'
            · rw [decide_eq_false (fun e => h40 (tx1.mp (e.trans (show ("(" : Str) = tx [40] by decide +kernel))))]
              refine q _ _ s1 ?_
              rw [plk, if_pos (.inl h40)]
              rfl
      · rw [decide_eq_false (fun h => hl (Int.ofNat_lt.mp h))]
        have e0 : (ls z).drop i = [] := List.drop_eq_nil_of_le (by rw [ls_len]; omega)
        rw [e0] at q
        refine ⟨_, rfl, _, rfl, z, i, rfl, hi, hz, ?_⟩
        rw [e0]
        refine ⟨_, rfl, _, rfl, (by decide), fun H1 s1 => ?_⟩
        refine ⟨_, rfl, ?_⟩
        refine ⟨_, rfl, _, rfl, lenS hz ?_⟩
        refine ⟨_, _, rfl, rfl, _, rfl, ?_⟩
        rw [decide_eq_true (show (z.length : Int) ≤ (i : Int) by omega)]
        exact q _ _ s1 rfl
end
end Z
set_option maxRecDepth 100000
set_option maxHeartbeats 4000000
namespace Z
open PySem PySem.Spec PyProof.Rows L2
section
variable {P : Program} {w : World} {K : PySem.W.Frag} {mg : Str → Option Value} {base : Heap} {a : Ad}
theorem sUpd {H H' : Hp} {D : Addr} {o : HO} (hD : H D = none) (s : Same H H') : Same H (upd H' D o) := fun b u e => by
  rw [upd_ne (ne_of_none e hD)]
  exact s b u e
theorem tr_same {H H' : Hp} (e : Same H H') {t : Tr} {v : V} (h : Dp K H v t.d) : Dp K H' v t.d := dp_same e h
def Tr.kids : Tr → List Tr
  | .cho a b c e => [a, b, c, e]
  | _ => []
theorem get4 {v1 v2 v3 v4 x : V} {a b c e : Tr} {i : Nat} {H : Hp} (h : [v1, v2, v3, v4][i]? = some x) (h1 : Dp K H v1 a.d) (h2 : Dp K H v2 b.d) (h3 : Dp K H v3 c.d) (h4 : Dp K H v4 e.d) : ∃ t, [a, b, c, e][i]? = some t ∧ Dp K H x t.d := by
  match i, h with
  | 0, h => exact ⟨a, rfl, by cases h; exact h1⟩
  | 1, h => exact ⟨b, rfl, by cases h; exact h2⟩
  | 2, h => exact ⟨c, rfl, by cases h; exact h3⟩
  | 3, h => exact ⟨e, rfl, by cases h; exact h4⟩
theorem mem4 {a b c e t : Tr} {i : Nat} (h : [a, b, c, e][i]? = some t) : t = a ∨ t = b ∨ t = c ∨ t = e := by
  match i, h with
  | 0, h => cases h; exact .inl rfl
  | 1, h => cases h; exact .inr (.inl rfl)
  | 2, h => cases h; exact .inr (.inr (.inl rfl))
  | 3, h => cases h; exact .inr (.inr (.inr rfl))
theorem kid_deep {a b c e t : Tr} {i : Nat} (h : [a, b, c, e][i]? = some t) : t.deep + 1 ≤ (Tr.cho a b c e).deep := by
  have : (Tr.cho a b c e).deep = 1 + max (max a.deep b.deep) (max c.deep e.deep) := rfl
  rcases mem4 h with rfl | rfl | rfl | rfl <;> omega
theorem kid_ok {a b c e t : Tr} {i : Nat} (h : [a, b, c, e][i]? = some t) (ok : (Tr.cho a b c e).Ok) : t.Ok := by
  obtain ⟨oa, ob, oc, oe⟩ : a.Ok ∧ b.Ok ∧ c.Ok ∧ e.Ok := ok
  rcases mem4 h with rfl | rfl | rfl | rfl <;> assumption
theorem int_small {n : Int} (h : 0 ≤ n ∧ n ≤ 9) : n.natAbs.log2 < 1920 := Nat.lt_of_le_of_lt (Nat.log2_le_self _) (by omega)
def spText (K : PySem.W.Frag) (n : Nat) : Sp := fun vs H Q _ => ∃ (v : V) (t : Tr), vs = [v] ∧ Dp K H v t.d ∧ t.Ok ∧ t.deep ≤ n ∧ n ≤ 4 ∧ ∀ H', Same H H' → Q (.str t.text) H'
theorem join_text (a b c e : Tr) : Str.empty ++ "(" ++ a.text ++ "=" ++ b.text ++ "?" ++ c.text ++ ":" ++ e.text ++ ")" = (Tr.cho a b c e).text := by
  apply str_ext
  rw [cho_text]
  simp only [ls_app]
  have h0 : ls Str.empty = [] := rfl
  have h1 : ls ("(" : Str) = [40] := by decide +kernel
  have h2 : ls ("=" : Str) = [61] := by decide +kernel
  have h3 : ls ("?" : Str) = [63] := by decide +kernel
  have h4 : ls (":" : Str) = [58] := by decide +kernel
  have h5 : ls (")" : Str) = [41] := by decide +kernel
  rw [h0, h1, h2, h3, h4, h5]
  simp
theorem ok_text (T : Tx P K mg a) : ∀ n : Nat, FnOk P w K mg base CX0 (n + 1) a.f_text_of a.d_text_of ["plan"] (spText K n)
  | 0 => fnNo fun vs H Q E ⟨v, t, _, _, _, h, _⟩ => by
    have := deep_pos t
    omega
  | n + 1 => by
    have IH : FnOk P w K mg base CX0 (n + 1) a.f_text_of a.d_text_of ["plan"] (spText K n) := ok_text T n
    refine T.text_of.fn.ok sc_text_of (fun vs H Q E h => ?_) (fun cdv A outer s H vs Q E hr h => ?_)
    · obtain ⟨v, t, rfl, _⟩ := h
      rfl
    · obtain ⟨v, t, rfl, hv, ok, hd, hn, q⟩ := h
      have nd := sc_text_of.nd
      refine ⟨_, (pss_cons (ps_if (pt_not (pt_val (cb_isi T.bi (pa_cons (pv 0) (pa_cons (gl_ty rfl T.bi.tuple PyProof.Rows.boot_tuple) pa_nil)))))
        (pss_one (ps_ret (cb_str T.bi (pa_cons (pv 0) pa_nil)))) pss_nil)
        (pss_cons (ps_asg (pe_lc (own := [("part", 5)]) (by rfl) nd (pi_tup (pv 0)) (blkOk_by (own := [("part", 5)]) (N := ["plan", "one", "other", "same", "unlike", "part"]) (sc := defScope s_text_of) (by decide +kernel)) (fun _ _ _ _ _ => (pg_name (i := 5) nd rfl (Or.inl rfl))) (fun _ _ _ _ _ => pts_nil) (fun _ _ _ _ _ => (pe_cf T.text_of IH hr (pa_cons (pv 5) pa_nil)))) (pg_unl rfl (pgs_cons (pg_name (i := 1) nd rfl (Or.inl rfl)) (pgs_cons (pg_name (i := 2) nd rfl (Or.inl rfl)) (pgs_cons (pg_name (i := 3) nd rfl (Or.inl rfl)) (pgs_cons (pg_name (i := 4) nd rfl (Or.inl rfl)) pgs_nil))))))
        (pss_one (ps_ret (pe_joined (PJ.cons pe_str (PJ.cons (pe_fmt (pv 1)) (PJ.cons pe_str (PJ.cons (pe_fmt (pv 2)) (PJ.cons pe_str (PJ.cons (pe_fmt (pv 3)) (PJ.cons pe_str (PJ.cons (pe_fmt (pv 4)) (PJ.cons pe_str PJ.nil)))))))))))))), ?_⟩
      refine ⟨_, rfl, isiTr hv ?_⟩
      refine ⟨_, rfl, ?_⟩
      cases t with
      | con m =>
        obtain rfl := tr_con hv
        exact ⟨_, rfl, strI (int_small ok) (q _ fun _ _ e => e)⟩
      | var x =>
        obtain rfl := tr_var hv
        exact ⟨_, rfl, strS (q _ fun _ _ e => e)⟩
      | cho a1 b1 c1 e1 =>
        obtain ⟨p, v1, v2, v3, v4, rfl, sq, h1, h2, h3, h4⟩ := tr_cho hv
        refine ⟨_, rfl, p, rfl, ⟨_, sq⟩, fun D hD => ?_⟩
        refine lc_it (walk_tup (xs := [v1, v2, v3, v4])) (fun i H' => H' D = some (.lst (([a1, b1, c1, e1].take i).map fun t => V.str t.text)) ∧ Same H H') ⟨upd_same, sNew hD⟩ (fun _ _ _ ⟨_, sm⟩ => SqT.same sm sq) ?_ ?_
        · rintro i x H1 H1' hi ⟨hA, sm⟩ ⟨rfl, hx⟩
          obtain ⟨t, ht, hdt⟩ := get4 (K := K) (H := H) hx h1 h2 h3 h4
          refine ⟨rfl, _, rfl, x, t, rfl, tr_same sm hdt, kid_ok ht ok, by have := kid_deep ht; omega, by omega, fun H2 s2 => ?_⟩
          have hi' : i < 4 := hi
          refine ⟨_, s2 _ _ hA, ?_, ?_, sUpd hD (sm.trans s2)⟩
          · rw [List.length_map, List.length_take]
            exact Nat.lt_of_le_of_lt (Nat.min_le_left _ _) (Nat.lt_trans hi' (by decide))
          · rw [upd_same, List.take_succ, ht, List.map_append]
            rfl
        · rintro H1 ⟨hA, sm⟩
          refine ⟨D, _, rfl, .inl (.inl hA), rfl, _, _, rfl, _, _, rfl, _, _, rfl, _, _, rfl, rfl, ?_⟩
          obtain ⟨oa, ob, oc, oe⟩ : a1.Ok ∧ b1.Ok ∧ c1.Ok ∧ e1.Ok := ok
          have hdd : (Tr.cho a1 b1 c1 e1).deep = 1 + max (max a1.deep b1.deep) (max c1.deep e1.deep) := rfl
          have t1 := text_small oa (by omega)
          have t2 := text_small ob (by omega)
          have t3 := text_small oc (by omega)
          have t4 := text_small oe (by omega)
          have k0 : (Str.empty).length = 0 := rfl
          have k1 : ("(" : Str).length = 1 := by decide +kernel
          have k2 : ("=" : Str).length = 1 := by decide +kernel
          have k3 : ("?" : Str).length = 1 := by decide +kernel
          have k4 : (":" : Str).length = 1 := by decide +kernel
          have k5 : (")" : Str).length = 1 := by decide +kernel
          have sl := PySem.sizeLine_eq
          have L : ∀ z : Str, z.length ≤ 1000 → z.length ≤ sizeLine := fun z h => by omega
          refine ⟨_, rfl, L _ (by simp only [len_app]; omega), _, rfl, .inl ⟨_, rfl, L _ (by omega), _, rfl, L _ (by simp only [len_app]; omega), _, rfl, L _ (by simp only [len_app]; omega), ?_⟩⟩
          refine ⟨_, rfl, .inl ⟨_, rfl, L _ (by omega), _, rfl, L _ (by simp only [len_app]; omega), _, rfl, L _ (by simp only [len_app]; omega), ?_⟩⟩
          refine ⟨_, rfl, .inl ⟨_, rfl, L _ (by omega), _, rfl, L _ (by simp only [len_app]; omega), _, rfl, L _ (by simp only [len_app]; omega), ?_⟩⟩
          refine ⟨_, rfl, .inl ⟨_, rfl, L _ (by omega), _, rfl, L _ (by simp only [len_app]; omega), _, rfl, L _ (by simp only [len_app]; omega), ?_⟩⟩
          rw [join_text]
          exact q _ sm
end
end Z
set_option maxRecDepth 100000
set_option maxHeartbeats 4000000
namespace Z
open PySem PySem.Spec PyProof.Rows L2
theorem has_kids {p a b c e : Tr} : p.has (.cho a b c e) = (decide (p = .cho a b c e) || [a, b, c, e].any p.has) := by
  simp [Tr.has, List.any_cons]
theorem any_take {α : Type} {l : List α} {f : α → Bool} {i : Nat} {x : α} (h : l[i]? = some x) : (l.take (i + 1)).any f = ((l.take i).any f || f x) := by
  rw [List.take_succ, h, List.any_append]
  simp
section
variable {P : Program} {w : World} {K : PySem.W.Frag} {mg : Str → Option Value} {base : Heap} {a : Ad}
def spHas (K : PySem.W.Frag) (n : Nat) : Sp := fun vs H Q _ => ∃ (v x : V) (p t : Tr), vs = [v, x] ∧ Dp K H v p.d ∧ Dp K H x t.d ∧ p.Fine ∧ t.Fine ∧ t.deep ≤ n ∧ ∀ H', Same H H' → Q (.bl (p.has t)) H'
theorem ok_stands (T : Tx P K mg a) : ∀ n : Nat, FnOk P w K mg base CX0 (n + 1) a.f_stands_in a.d_stands_in ["plan", "whole"] (spHas K n)
  | 0 => fnNo fun vs H Q E ⟨v, x, p, t, _, _, _, _, _, h, _⟩ => by
    have := deep_pos t
    omega
  | n + 1 => by
    have IH : FnOk P w K mg base CX0 (n + 1) a.f_stands_in a.d_stands_in ["plan", "whole"] (spHas K n) := ok_stands T n
    refine T.stands_in.fn.ok sc_stands_in (fun vs H Q E h => ?_) (fun cdv A outer s H vs Q E hr h => ?_)
    · obtain ⟨v, x, p, t, rfl, _⟩ := h
      rfl
    · obtain ⟨v, x, p, t, rfl, hv, hx, fp, ft, hd, q⟩ := h
      have nd := sc_stands_in.nd
      refine ⟨_, (pss_cons (ps_if (pt_cmpR (op_eqX hr) (pv 0) (pv 1) (nomark _)) (pss_one (ps_ret pe_bl)) pss_nil)
        (pss_one (ps_ret (pe_and (cb_isi T.bi (pa_cons (pv 1) (pa_cons (gl_ty rfl T.bi.tuple PyProof.Rows.boot_tuple) pa_nil))) (pe_one (pe_cmpR (op_neX hr) (pe_lc (own := [("part", 2)]) (by rfl) nd (pi_tup (pv 1)) (blkOk_by (own := [("part", 2)]) (N := ["plan", "whole", "part"]) (sc := defScope s_stands_in) (by decide +kernel)) (fun _ _ _ _ _ => (pg_name (i := 2) nd rfl (Or.inl rfl))) (fun _ _ _ _ _ => pts_one (pt_val (pe_cf T.stands_in IH hr (pa_cons (pv 0) (pa_cons (pv 2) pa_nil))))) (fun _ _ _ _ _ => (pv 2))) (pe_lst pa_nil) (nomark _))))))), ?_⟩
      refine ⟨_, rfl, _, rfl, eqT hv hx fp ft ?_⟩
      refine ⟨_, rfl, ?_⟩
      by_cases e : p = t
      · rw [decide_eq_true e]
        have : p.has t = true := by
          subst e
          cases p <;> simp [Tr.has]
        rw [this] at q
        exact q _ fun _ _ e => e
      · rw [decide_eq_false e]
        refine ⟨_, rfl, isiTr hx ?_⟩
        cases t with
        | con m =>
          have : p.has (.con m) = false := by simp [Tr.has, e]
          rw [this] at q
          exact ⟨_, rfl, q _ fun _ _ e => e⟩
        | var x =>
          have : p.has (.var x) = false := by simp [Tr.has, e]
          rw [this] at q
          exact ⟨_, rfl, q _ fun _ _ e => e⟩
        | cho a1 b1 c1 e1 =>
          refine ⟨_, rfl, ?_⟩
          obtain ⟨y, v1, v2, v3, v4, rfl, sq, h1, h2, h3, h4⟩ := tr_cho hx
          rw [has_kids, decide_eq_false e, Bool.false_or] at q
          refine ⟨_, rfl, y, rfl, ⟨_, sq⟩, fun D hD => ?_⟩
          refine lc_it (walk_tup (xs := [v1, v2, v3, v4])) (fun i H' => ∃ acc : List V, H' D = some (.lst acc) ∧ Same H H' ∧ acc.length ≤ i ∧ (!acc.isEmpty) = ([a1, b1, c1, e1].take i).any p.has) ⟨[], upd_same, sNew hD, Nat.le_refl _, rfl⟩ (fun _ _ _ ⟨_, _, sm, _⟩ => SqT.same sm sq) ?_ ?_
          · rintro i x H1 H1' hi ⟨acc, hA, sm, ln, em⟩ ⟨rfl, hx⟩
            obtain ⟨t, ht, hdt⟩ := get4 (K := K) (H := H) hx h1 h2 h3 h4
            have hi' : i < 4 := hi
            have hk := kid_deep ht
            refine ⟨rfl, _, rfl, _, rfl, v, x, p, t, rfl, tr_same sm hv, tr_same sm hdt, fp, ⟨kid_ok ht ft.1, by have := ft.2; omega⟩, by omega, fun H2 s2 => ?_⟩
            refine ⟨_, rfl, ?_⟩
            cases hb : p.has t with
            | true =>
              refine ⟨_, rfl, acc, s2 _ _ hA, Nat.lt_of_le_of_lt ln (Nat.lt_trans hi' (by decide)), acc ++ [x], upd_same, sUpd hD (sm.trans s2), by rw [List.length_append]; exact Nat.succ_le_succ ln, ?_⟩
              rw [any_take ht, hb]
              simp
            | false =>
              refine ⟨acc, s2 _ _ hA, sm.trans s2, Nat.le_succ_of_le ln, ?_⟩
              rw [any_take ht, hb, em, Bool.or_false]
          · rintro H1 ⟨acc, hA, sm, ln, em⟩
            refine ⟨Nat.zero_le _, fun b hb => ?_⟩
            refine neL0 (.inl (.inl (by rw [upd_ne (ne_of_none hA hb)]; exact hA))) upd_same ?_
            rw [em]
            exact q _ (sm.trans (sNew hb))
def TermAt (K : PySem.W.Frag) (C : Addr) (H : Hp) (p : Addr) (t : Tr) : Prop := ∃ (dx : Addr) (u : V), H p = some (.ins C dx [("tree", u)]) ∧ Dp K H u t.d ∧ t.Fine
theorem TermAt.same {C : Addr} {H H' : Hp} {p : Addr} {t : Tr} (e : Same H H') (h : TermAt K C H p t) : TermAt K C H' p t := by
  obtain ⟨dx, u, h1, h2, h3⟩ := h
  exact ⟨dx, u, e _ _ h1, tr_same e h2, h3⟩
inductive PO (K : PySem.W.Frag) (C : Addr) (H : Hp) : V → Option Tr → Prop
  | str (z : Str) (h : z.length ≤ sizeLine) : PO K C H (.str z) (planOf z)
  | own {p : Addr} {t : Tr} (h : TermAt K C H p t) : PO K C H (.ref p) (some t)
  | int (n : Int) : PO K C H (.int n) (if 0 ≤ n ∧ n ≤ 9 then some (.con n) else none)
  | oth {x : V} {ty : String} {r1 r2 : Bool} (h : TyX K H x (.type ty)) (k1 : kitB ty "int" = some r1) (k2 : kitB ty "bool" = some r2) (e : (r1 && !r2) = false) (k3 : kitB ty "str" = some false) (k4 : PySem.W.kitOne K (.type ty) (.ref C) = some false) : PO K C H x none
def GotT (K : PySem.W.Frag) (H : Hp) (v : V) : Option Tr → Prop
  | none => v = .non
  | some t => Dp K H v t.d
def spPlanOf (K : PySem.W.Frag) (C : Addr) : Sp := fun vs H Q _ => ∃ (x : V) (r : Option Tr), vs = [x] ∧ PO K C H x r ∧ ∀ v H', Same H H' → GotT K H' v r → Q v H'
theorem tyTerm (T : Tx P K mg a) {H : Hp} {p dx : Addr} {fs : List (Str × V)} (h : H p = some (.ins a.C_Term dx fs)) : TyX K H (.ref p) (.ref a.C_Term) := .base (.ins h T.c_Term T.ty_Term T.tn T.tt T.mo_Term)
theorem ok_plan_of (T : Tx P K mg a) : FnOk P w K mg base CX0 6 a.f_plan_of a.d_plan_of ["value"] (spPlanOf K a.C_Term) := by
  have F1 : FnOk P w K mg base CX0 2 a.f_is_number a.d_is_number ["value", "low", "high"] (spNumber K) := ok_number T
  have F2 : FnOk P w K mg base CX0 4 a.f_plan_at a.d_plan_at ["text", "at", "deep"] (spPlanAt K 3) := ok_plan_at T 3
  refine T.plan_of.fn.ok sc_plan_of (fun vs H Q E h => ?_) (fun cdv A outer s H vs Q E hr h => ?_)
  · obtain ⟨x, r, rfl, _⟩ := h
    rfl
  · obtain ⟨x, r, rfl, hp, q⟩ := h
    have nd := sc_plan_of.nd
    refine ⟨_, (pss_cons (ps_if (pt_val (cb_isi T.bi (pa_cons (pv 0) (pa_cons (pe_gr T.g_Term) pa_nil)))) (pss_one (ps_ret (pe_fld (pv 0) rfl))) pss_nil)
      (pss_cons (ps_if (pt_val (pe_cf T.is_number F1 (hr.mono (by decide)) (pa_cons (pv 0) (pa_cons pe_int (pa_cons (pe_gi T.v_MOST_CONSTANT) pa_nil))))) (pss_one (ps_ret (pv 0))) pss_nil)
      (pss_cons (ps_if (pt_not (pt_val (cb_isi T.bi (pa_cons (pv 0) (pa_cons (gl_ty rfl T.bi.str PyProof.Rows.boot_str) pa_nil))))) (pss_one (ps_ret pe_non)) pss_nil)
      (pss_cons (ps_set (i := 1) nd rfl (Or.inl rfl) (pe_cf T.plan_at F2 (hr.mono (by decide)) (pa_cons (pv 0) (pa_cons pe_int (pa_cons (pe_gi T.v_MOST_DEPTH) pa_nil)))))
      (pss_cons (ps_if (PW.pt (pw_or (pt_cmp (pc_isN (pv 1))) (pw_or1 (pt_cmpR (op_neX hr) (pe_ix ix_A (pv 1) pe_int (fun _ _ => rfl)) (cb_len T.bi (pa_cons (pv 0) pa_nil)) (nomark _))))) (pss_one (ps_ret pe_non)) pss_nil)
      (pss_one (ps_ret (pe_ix ix_A (pv 1) pe_int (fun _ _ => rfl))))))))), ?_⟩
    have rf : Same H H := fun _ _ e => e
    cases hp with
    | own h =>
      rename_i p t
      obtain ⟨dx, u, h1, h2, h3⟩ := h
      refine ⟨_, rfl, isiOwn (tyTerm T h1) T.kit_Term ?_⟩
      refine ⟨_, rfl, ?_⟩
      exact ⟨_, rfl, p, a.C_Term, dx, _, u, rfl, h1, T.c_Term, T.no_Term_tree, rfl, q _ _ rf h2⟩
    | int n =>
      refine ⟨_, rfl, isiOwn (.base (.int n)) T.kit_Term_int ?_⟩
      refine ⟨_, rfl, ?_⟩
      refine ⟨_, rfl, _, 0, 9, rfl, .inl ⟨n, rfl, ?_⟩⟩
      refine ⟨_, rfl, ?_⟩
      by_cases h : 0 ≤ n ∧ n ≤ 9
      · rw [decide_eq_true h.1, decide_eq_true h.2]
        rw [if_pos h] at q
        exact ⟨_, rfl, q _ _ rf (.int n)⟩
      · rw [if_neg h] at q
        have : (decide (0 ≤ n) && decide (n ≤ 9)) = false := by
          rw [← Bool.decide_and]
          exact decide_eq_false h
        rw [this]
        refine ⟨_, rfl, isiTy (.base (.int n)) (by decide +kernel : kitB "int" "str" = some false) ?_⟩
        exact ⟨_, rfl, q _ _ rf rfl⟩
    | oth h k1 k2 e k3 k4 =>
      refine ⟨_, rfl, isiOwn h k4 ?_⟩
      refine ⟨_, rfl, ?_⟩
      refine ⟨_, rfl, _, 0, 9, rfl, .inr ⟨_, _, _, h, k1, k2, e, ?_⟩⟩
      refine ⟨_, rfl, ?_⟩
      refine ⟨_, rfl, isiTy h k3 ?_⟩
      exact ⟨_, rfl, q _ _ rf rfl⟩
    | str z hz =>
      refine ⟨_, rfl, isiOwn (.base (.str z)) T.kit_Term_str ?_⟩
      refine ⟨_, rfl, ?_⟩
      refine ⟨_, rfl, _, 0, 9, rfl, .inr ⟨"str", false, false, .base (.str z), k_si, by decide +kernel, rfl, ?_⟩⟩
      refine ⟨_, rfl, ?_⟩
      refine ⟨_, rfl, isiTy (.base (.str z)) k_ss ?_⟩
      refine ⟨_, rfl, ?_⟩
      refine ⟨_, rfl, z, 0, rfl, Nat.zero_le _, hz, by decide, fun v H1 s1 got => ?_⟩
      rw [List.drop_zero] at got
      unfold planOf at q
      refine ⟨_, rfl, ?_⟩
      cases hf : pl 3 (ls z) with
      | none =>
        rw [hf] at got q
        obtain rfl : v = .non := got
        refine ⟨_, rfl, ?_⟩
        exact q _ _ s1 rfl
      | some tr =>
        obtain ⟨t, r⟩ := tr
        rw [hf] at got q
        obtain ⟨pf, j, u, rfl, hj, hr', hpf, hu⟩ := got
        refine ⟨_, rfl, ?_⟩
        refine ⟨_, rfl, ixT (i := 1) (.inl (.inl hpf)) rfl ?_⟩
        refine ⟨_, rfl, lenS hz ?_⟩
        refine neI ?_
        refine ⟨_, rfl, ?_⟩
        by_cases hl : j = z.length
        · rw [decide_eq_true (show (j : Int) = (z.length : Int) by omega)]
          have : r = [] := by rw [← hr']; exact List.drop_eq_nil_of_le (by rw [ls_len]; omega)
          subst this
          exact ⟨_, rfl, ixT (i := 0) (.inl (.inl hpf)) rfl (q _ _ s1 hu)⟩
        · rw [decide_eq_false (show ¬ (j : Int) = (z.length : Int) by omega)]
          cases r with
          | nil =>
            have := congrArg List.length hr'
            rw [List.length_drop, ls_len] at this
            simp at this
            omega
          | cons c r => exact q _ _ s1 rfl
end
end Z
set_option maxRecDepth 100000
set_option maxHeartbeats 4000000
namespace Z
open PySem PySem.Spec PyProof.Rows L2
section
variable {P : Program} {w : World} {K : PySem.W.Frag} {mg : Str → Option Value} {base : Heap} {a : Ad}
theorem plp_fine {d : Nat} {f : List Nat → Option (Tr × List Nat)} (hf : ∀ l t r, f l = some (t, r) → t.Ok ∧ t.deep ≤ d) : ∀ {ss l ts z}, plp f ss l = some (ts, z) → ∀ t ∈ ts, t.Ok ∧ t.deep ≤ d
  | [], l, ts, z, h => by
    simp [plp] at h
    obtain ⟨rfl, _⟩ := h
    intro t ht
    cases ht
  | s :: ss, l, ts, z, h => by
    unfold plp at h
    split at h
    · rename_i t c q e
      split at h
      · split at h
        · rename_i us y e2
          cases h
          intro t' ht
          rcases List.mem_cons.mp ht with rfl | ht
          · exact hf _ _ _ e
          · exact plp_fine hf e2 t' ht
        · cases h
      · cases h
    · cases h
theorem pl_fine : ∀ (d : Nat) (l : List Nat) (t : Tr) (r : List Nat), pl d l = some (t, r) → t.Ok ∧ t.deep ≤ d
  | 0, l, t, r, h => by cases h
  | d + 1, [], t, r, h => by cases h
  | d + 1, c :: q, t, r, h => by
    unfold pl at h
    split at h
    · rename_i hc
      cases h
      unfold isDB at hc
      simp at hc
      exact ⟨⟨by omega, by omega⟩, Nat.le_add_left 1 d⟩
    · split at h
      · rename_i hw
        cases h
        have := wordB_iff (w := tx ((c :: q).takeWhile isLB))
        rw [ls_tx] at this
        exact ⟨this.mp hw, Nat.le_add_left 1 d⟩
      · split at h
        · cases h
        · unfold plx at h
          split at h
          · rename_i a b c e z e2
            cases h
            have hh := plp_fine (fun l t r => pl_fine d l t r) e2
            have ha := hh a (by simp)
            have hb := hh b (by simp)
            have hc := hh c (by simp)
            have he := hh e (by simp)
            refine ⟨⟨ha.1, hb.1, hc.1, he.1⟩, ?_⟩
            show 1 + max (max a.deep b.deep) (max c.deep e.deep) ≤ d + 1
            omega
          · cases h
theorem planOf_fine {z : Str} {t : Tr} (h : planOf z = some t) : t.Ok ∧ t.deep ≤ 3 := by
  unfold planOf at h
  split at h
  · rename_i u e
    cases h
    exact pl_fine 3 _ _ _ e
  · cases h
theorem po_fine {K : PySem.W.Frag} {C : Addr} {H : Hp} {x : V} {t : Tr} (h : PO K C H x (some t)) : t.Fine := by
  generalize hr : some t = r at h
  cases h with
  | str z hz =>
    have := planOf_fine hr.symm
    exact ⟨this.1, by omega⟩
  | own h =>
    cases hr
    obtain ⟨_, _, _, _, f⟩ := h
    exact f
  | int n =>
    split at hr
    · rename_i hn
      cases hr
      exact ⟨hn, show 1 ≤ 60 by decide⟩
    · cases hr
  | oth => cases hr
theorem TK.ins {H : Hp} {p C dx : Addr} {fs : List (Str × V)} {o : HO} (h : H p = some (.ins C dx fs)) : TK H (upd H p o) :=
  ⟨fun b ys e => by rw [upd_ne (ne_of e h (by intro z; cases z))]; exact e, fun b o u e => by rw [upd_ne (ne_of e h (by intro z; cases z))]; exact e⟩
def spInit (K : PySem.W.Frag) (C X : Addr) : Sp := fun vs H Q E => ∃ (p dx : Addr) (x : V) (r : Option Tr), vs = [.ref p, x] ∧ H p = some (.ins C dx []) ∧ PO K C H x r ∧
  (∀ t v H', r = some t → But p H H' → H' p = some (.ins C dx [("tree", v)]) → Dp K H' v t.d → Q .non H') ∧ (r = none → ∀ d H1, Same H H1 → H1 d = none → E (.ref X) (some d) (upd H1 d (.xd [("value", x)])))
theorem ok_init (T : Tx P K mg a) : FnOk P w K mg base (L2.CX P w) 7 a.f_Term___init__ a.d_Term___init__ ["self", "value"] (spInit K a.C_Term a.C_NoTerm) := by
  have F1 : FnOk P w K mg base CX0 6 a.f_plan_of a.d_plan_of ["value"] (spPlanOf K a.C_Term) := ok_plan_of T
  refine T.Term___init__.okX sc_Term___init__ (fun vs H Q E h => ?_) (fun cdv A outer s H vs Q E hr h => ?_)
  · obtain ⟨p, dx, x, r, rfl, _⟩ := h
    rfl
  · obtain ⟨p, dx, x, r, rfl, hp, po, q1, q2⟩ := h
    have nd := sc_Term___init__.nd
    refine ⟨_, (pss_cons (ps_set (i := 2) nd rfl (Or.inl rfl) (pe_cf T.plan_of F1 hr (pa_cons (pv 1) pa_nil)))
      (pss_cons (ps_if (pt_cmp (pc_isN (pv 2))) (pss_one (ps_raiseT (takes_of rfl rfl rfl rfl) T.e_NoTerm hr (pa_cons (pv 1) pa_nil))) pss_nil)
      (pss_one (ps_fld (pv 0) (pv 2) rfl)))), ?_⟩
    refine ⟨_, rfl, _, r, rfl, po, fun v H1 s1 got => ?_⟩
    refine ⟨_, rfl, ?_⟩
    cases r with
    | none =>
      obtain rfl : v = .non := got
      refine ⟨_, rfl, ?_⟩
      exact ⟨_, rfl, x, rfl, fun d hd => q2 rfl d H1 s1 hd⟩
    | some t =>
      have nv : decide (v = V.non) = false := by
        refine decide_eq_false ?_
        rintro rfl
        cases t <;> (unfold GotT Tr.d at got; cases got)
      refine ⟨_, rfl, ?_⟩
      rw [nv]
      have hp1 := s1 _ _ hp
      refine ⟨_, rfl, _, rfl, p, a.C_Term, dx, [], rfl, hp1, T.c_Term, T.no_Term_tree, (by decide), ?_⟩
      refine q1 t v _ rfl (fun b o hb e => by rw [upd_ne hb]; exact s1 b o e) upd_same ?_
      exact tr_tk (TK.ins hp1) t got
def spWithin (K : PySem.W.Frag) (C X : Addr) : Sp := fun vs H Q E => ∃ (p : Addr) (x : V) (s : Tr), vs = [.ref p, x] ∧ TermAt K C H p s ∧
  ((∃ q t, x = .ref q ∧ TermAt K C H q t ∧ t.deep ≤ 9 ∧ ∀ H', Same H H' → Q (.bl (s.has t)) H') ∨ (∃ ty, TyX K H x (.type ty) ∧ PySem.W.kitOne K (.type ty) (.ref C) = some false ∧ ∀ d, H d = none → E (.ref X) (some d) (upd H d (.xd [("value", x)]))))
theorem ok_within (T : Tx P K mg a) : FnOk P w K mg base (L2.CX P w) 11 a.f_Term_within a.d_Term_within ["self", "other"] (spWithin K a.C_Term a.C_NoTerm) := by
  have F1 : FnOk P w K mg base CX0 10 a.f_stands_in a.d_stands_in ["plan", "whole"] (spHas K 9) := ok_stands T 9
  refine T.Term_within.okX sc_Term_within (fun vs H Q E h => ?_) (fun cdv A outer s H vs Q E hr h => ?_)
  · obtain ⟨p, x, s, rfl, _⟩ := h
    rfl
  · obtain ⟨p, x, s, rfl, hp, h⟩ := h
    have nd := sc_Term_within.nd
    refine ⟨_, (pss_cons (ps_if (pt_not (pt_val (cb_isi T.bi (pa_cons (pv 1) (pa_cons (pe_gr T.g_Term) pa_nil))))) (pss_one (ps_raiseT (takes_of rfl rfl rfl rfl) T.e_NoTerm hr (pa_cons (pv 1) pa_nil))) pss_nil)
      (pss_one (ps_ret (pe_cf T.stands_in F1 hr (pa_cons (pe_fld (pv 0) rfl) (pa_cons (pe_fld (pv 1) rfl) pa_nil)))))), ?_⟩
    obtain ⟨dx, u, h1, h2, h3⟩ := hp
    rcases h with ⟨q, t, rfl, ⟨dy, v, g1, g2, g3⟩, hd, k⟩ | ⟨ty, ht, hk, k⟩
    · refine ⟨_, rfl, isiOwn (tyTerm T g1) T.kit_Term ?_⟩
      refine ⟨_, rfl, ?_⟩
      refine ⟨_, rfl, p, _, dx, _, u, rfl, h1, T.c_Term, T.no_Term_tree, rfl, ?_⟩
      refine ⟨_, rfl, q, _, dy, _, v, rfl, g1, T.c_Term, T.no_Term_tree, rfl, ?_⟩
      exact ⟨u, v, s, t, rfl, h2, g2, h3, g3, hd, k⟩
    · refine ⟨_, rfl, isiOwn ht hk ?_⟩
      refine ⟨_, rfl, ?_⟩
      exact ⟨_, rfl, x, rfl, fun d hd => k d hd⟩
def spEqT (K : PySem.W.Frag) (C : Addr) : Sp := fun vs H Q _ => ∃ (p q : Addr) (s t : Tr), vs = [.ref p, .ref q] ∧ TermAt K C H p s ∧ TermAt K C H q t ∧ Q (.bl (decide (s = t))) H
theorem ok_eq (T : Tx P K mg a) : FnOk P w K mg base CX0 1 a.f_Term___eq__ a.d_Term___eq__ ["self", "other"] (spEqT K a.C_Term) := by
  refine T.Term___eq__.ok sc_Term___eq__ (fun vs H Q E h => ?_) (fun cdv A outer s H vs Q E hr h => ?_)
  · obtain ⟨p, x, s, t, rfl, _⟩ := h
    rfl
  · obtain ⟨p, q, s, t, rfl, ⟨dx, u, h1, h2, h3⟩, ⟨dy, v, g1, g2, g3⟩, k⟩ := h
    refine ⟨_, (pss_one (ps_ret (pe_and (cb_isi T.bi (pa_cons (pv 1) (pa_cons (pe_gr T.g_Term) pa_nil))) (pe_one (pe_cmpR (op_eqX hr) (pe_fld (pv 0) rfl) (pe_fld (pv 1) rfl) (nomark _)))))), ?_⟩
    refine ⟨_, rfl, isiOwn (tyTerm T g1) T.kit_Term ?_⟩
    refine ⟨_, rfl, ?_⟩
    refine ⟨_, rfl, p, _, dx, _, u, rfl, h1, T.c_Term, T.no_Term_tree, rfl, ?_⟩
    refine ⟨_, rfl, q, _, dy, _, v, rfl, g1, T.c_Term, T.no_Term_tree, rfl, ?_⟩
    exact eqT h2 g2 h3 g3 k
theorem make_term {H : Hp} {t : Tr} {C X : Addr} {R : VK} {x dx : Addr} (ok : t.Ok) (hd : t.deep ≤ 3) (hx : H x = none) (hdx : H dx = none) (ne : dx ≠ x) (q : ∀ H', Same H H' → TermAt K C H' x t → R .non H') :
    spInit K C X [.ref x, .str t.text] (upd (upd H dx (.own x)) x (.ins C dx [])) R E0 := by
  have hz : t.text.length ≤ sizeLine := Nat.le_trans (text_small ok hd) (by decide)
  refine ⟨x, dx, _, _, rfl, upd_same, .str _ hz, fun t' v H' e b h1 h2 => ?_, fun e => ?_⟩
  · rw [plan_text ok hd] at e
    cases e
    refine q H' (fun c o hc => b c o (ne_of_none hc hx) ?_) ⟨dx, v, h1, h2, ok, by omega⟩
    rw [upd_ne (ne_of_none hc hx), upd_ne (ne_of_none hc hdx)]
    exact hc
  · rw [plan_text ok hd] at e
    cases e
def spParts (K : PySem.W.Frag) (C : Addr) : Sp := fun vs H Q _ => ∃ (p : Addr) (t : Tr), vs = [.ref p] ∧ TermAt K C H p t ∧ t.deep ≤ 3 ∧
  ∀ l (ps : List Addr) H', Same H H' → H' l = some (.lst (ps.map V.ref)) → ps.length = t.kids.length → (∀ (i : Nat) (q : Addr) (k : Tr), ps[i]? = some q → t.kids[i]? = some k → TermAt K C H' q k) → Q (.ref l) H'
theorem ok_parts (T : Tx P K mg a) : FnOk P w K mg base CX0 9 a.f_Term_parts a.d_Term_parts ["self"] (spParts K a.C_Term) := by
  have F1 : FnOk P w K mg base CX0 4 a.f_text_of a.d_text_of ["plan"] (spText K 3) := ok_text T 3
  have F2 : FnOk P w K mg base (L2.CX P w) 7 a.f_Term___init__ a.d_Term___init__ ["self", "value"] (spInit K a.C_Term a.C_NoTerm) := ok_init T
  refine T.Term_parts.ok sc_Term_parts (fun vs H Q E h => ?_) (fun cdv A outer s H vs Q E hr h => ?_)
  · obtain ⟨p, t, rfl, _⟩ := h
    rfl
  · obtain ⟨p, t, rfl, ⟨dx, u, h1, h2, h3⟩, hd, k⟩ := h
    have nd := sc_Term_parts.nd
    refine ⟨_, (pss_cons (ps_if (pt_not (pt_val (cb_isi T.bi (pa_cons (pe_fld (pv 0) rfl) (pa_cons (gl_ty rfl T.bi.tuple PyProof.Rows.boot_tuple) pa_nil))))) (pss_one (ps_ret (pe_lst pa_nil))) pss_nil)
      (pss_one (ps_ret (pe_lc (own := [("part", 1)]) (by rfl) nd (pi_tup (pe_fld (pv 0) rfl)) (blkOk_by (own := [("part", 1)]) (N := ["self", "part"]) (sc := defScope s_Term_parts) (by decide +kernel)) (fun _ _ _ _ _ => (pg_name (i := 1) nd rfl (Or.inl rfl))) (fun _ _ _ _ _ => pts_nil)
        (fun _ _ _ _ _ => (pe_make T.mk_Term F2 hr rfl T.g_Term T.b_Term___init__ .nil passL (pa_cons (pe_cf T.text_of F1 (hr.mono (by decide)) (pa_cons (pv 1) pa_nil)) pa_nil))))))), ?_⟩
    refine ⟨_, rfl, p, _, dx, _, u, rfl, h1, T.c_Term, T.no_Term_tree, rfl, isiTr h2 ?_⟩
    refine ⟨_, rfl, ?_⟩
    cases t with
    | con m => exact ⟨Nat.zero_le _, fun l hl => k l [] _ (sNew hl) upd_same rfl fun i q k h _ => by simp at h⟩
    | var m => exact ⟨Nat.zero_le _, fun l hl => k l [] _ (sNew hl) upd_same rfl fun i q k h _ => by simp at h⟩
    | cho a1 b1 c1 e1 =>
      obtain ⟨y, v1, v2, v3, v4, rfl, sq, g1, g2, g3, g4⟩ := tr_cho h2
      refine ⟨_, rfl, p, _, dx, _, _, rfl, h1, T.c_Term, T.no_Term_tree, rfl, y, rfl, ⟨_, sq⟩, fun D hD => ?_⟩
      refine lc_it (walk_tup (xs := [v1, v2, v3, v4])) (fun i H' => ∃ ps : List Addr, H' D = some (.lst (ps.map V.ref)) ∧ Same H H' ∧ ps.length = i ∧ (∀ (j : Nat) (q : Addr) (k : Tr), ps[j]? = some q → [a1, b1, c1, e1][j]? = some k → TermAt K a.C_Term H' q k))
        ⟨[], upd_same, sNew hD, rfl, fun j q k h _ => by simp at h⟩ (fun _ _ _ ⟨_, _, sm, _⟩ => SqT.same sm sq) ?_ ?_
      · rintro i x H1 H1' hi ⟨ps, hA, sm, ln, al⟩ ⟨rfl, hx⟩
        obtain ⟨t, ht, hdt⟩ := get4 (K := K) (H := H) hx g1 g2 g3 g4
        have hk := kid_deep ht
        have ok := kid_ok ht h3.1
        have hi' : i < 4 := hi
        refine ⟨rfl, _, rfl, x, t, rfl, tr_same sm hdt, ok, by omega, by decide, fun H2 s2 => ?_⟩
        intro x2 dx2 n1 n2 ne
        refine make_term ok (by omega) n1 n2 ne fun H3 s3 tq => ⟨rfl, ?_⟩
        have sA : Same H1' H3 := s2.trans s3
        refine ⟨_, sA _ _ hA, by rw [List.length_map, ln]; exact Nat.lt_trans hi' (by decide), ps ++ [x2], by rw [upd_same, List.map_append]; rfl, sUpd hD (sm.trans sA), by rw [List.length_append, ln]; rfl, ?_⟩
        have up : ∀ {q' : Addr} {t' : Tr}, TermAt K a.C_Term H3 q' t' → TermAt K a.C_Term (upd H3 D (.lst (ps.map V.ref ++ [V.ref x2]))) q' t' := fun {q' t'} h => by
          obtain ⟨dz, uz, z1, z2, z3⟩ := h
          have hDl := sA _ _ hA
          exact ⟨dz, uz, by rw [upd_ne (ne_of z1 hDl (by intro z; cases z))]; exact z1, tr_tk (TK.lst hDl) t' z2, z3⟩
        intro j q' k' hj hk'
        by_cases hjl : j < ps.length
        · rw [List.getElem?_append_left hjl] at hj
          exact up ((al j q' k' hj hk').same sA)
        · have : j = ps.length := by
            have := (List.getElem?_eq_some_iff.mp hj).1
            rw [List.length_append, List.length_singleton] at this
            omega
          subst this
          rw [List.getElem?_append_right (Nat.le_refl _), Nat.sub_self] at hj
          cases hj
          rw [ln, ht] at hk'
          cases hk'
          exact up tq
      · rintro H1 ⟨ps, hA, sm, ln, al⟩
        exact k D ps H1 sm hA ln al
end
end Z
set_option maxRecDepth 100000
set_option maxHeartbeats 4000000
namespace Z
open PySem PySem.Spec PyProof.Rows L2
section
variable {P : Program} {w : World} {K : PySem.W.Frag} {mg : Str → Option Value} {base : Heap} {a : Ad}
theorem get4T {p1 p2 p3 p4 : Addr} {x : V} {t1 t2 t3 t4 : Tr} {i : Nat} {C : Addr} {H : Hp} (h : [V.ref p1, V.ref p2, V.ref p3, V.ref p4][i]? = some x) (h1 : TermAt K C H p1 t1) (h2 : TermAt K C H p2 t2) (h3 : TermAt K C H p3 t3) (h4 : TermAt K C H p4 t4) : ∃ q t, x = .ref q ∧ [t1, t2, t3, t4][i]? = some t ∧ TermAt K C H q t := by
  match i, h with
  | 0, h => exact ⟨p1, t1, by cases h; rfl, rfl, h1⟩
  | 1, h => exact ⟨p2, t2, by cases h; rfl, rfl, h2⟩
  | 2, h => exact ⟨p3, t3, by cases h; rfl, rfl, h3⟩
  | 3, h => exact ⟨p4, t4, by cases h; rfl, rfl, h4⟩
theorem none_tr {H : Hp} {v : V} {t : Tr} (h : Dp K H v t.d) : decide (v = V.non) = false := by
  refine decide_eq_false ?_
  rintro rfl
  cases t <;> (unfold Tr.d at h; cases h)
def spChoice (K : PySem.W.Frag) (C : Addr) : Sp := fun vs H Q _ => ∃ (p1 p2 p3 p4 : Addr) (t1 t2 t3 t4 : Tr), vs = [.ref p1, .ref p2, .ref p3, .ref p4] ∧ TermAt K C H p1 t1 ∧ TermAt K C H p2 t2 ∧ TermAt K C H p3 t3 ∧ TermAt K C H p4 t4 ∧ (Tr.cho t1 t2 t3 t4).deep ≤ 3 ∧
  ∀ q H', Same H H' → TermAt K C H' q (.cho t1 t2 t3 t4) → Q (.ref q) H'
theorem ok_choice (T : Tx P K mg a) : FnOk P w K mg base (L2.CX P w) 9 a.f_Term_choice a.d_Term_choice ["one", "other", "same", "unlike"] (spChoice K a.C_Term) := by
  have F0 : FnOk P w K mg base CX0 6 a.f_plan_of a.d_plan_of ["value"] (spPlanOf K a.C_Term) := ok_plan_of T
  have F1 : FnOk P w K mg base CX0 4 a.f_text_of a.d_text_of ["plan"] (spText K 3) := ok_text T 3
  have F2 : FnOk P w K mg base (L2.CX P w) 7 a.f_Term___init__ a.d_Term___init__ ["self", "value"] (spInit K a.C_Term a.C_NoTerm) := ok_init T
  refine T.Term_choice.okX sc_Term_choice (fun vs H Q E h => ?_) (fun cdv A outer s H vs Q E hr h => ?_)
  · obtain ⟨p1, p2, p3, p4, t1, t2, t3, t4, rfl, _⟩ := h
    rfl
  · obtain ⟨p1, p2, p3, p4, t1, t2, t3, t4, rfl, h1, h2, h3, h4, hd, k⟩ := h
    have nd := sc_Term_choice.nd
    refine ⟨_, (pss_cons (ps_set (i := 4) nd rfl (Or.inl rfl) (pe_lst pa_nil))
      (pss_cons (ps_for (passes_of rfl) rfl (pi_tup (pe_tup (pa_cons (pv 0) (pa_cons (pv 1) (pa_cons (pv 2) (pa_cons (pv 3) pa_nil)))))) (pg_name (i := 5) nd rfl (Or.inl rfl))
        (pss_cons (ps_set (i := 6) nd rfl (Or.inl rfl) (pe_cf T.plan_of F0 (hr.mono (by decide)) (pa_cons (pv 5) pa_nil)))
        (pss_cons (ps_if (pt_cmp (pc_isN (pv 6))) (pss_one ps_no) pss_nil)
        (pss_one (ps_expr (pe_bm PySem.F.plainAttrs_list PySem.F.slot_list_append PySem.F.type_list_append mt_append (pv 4) (pa_cons (pv 6) pa_nil)))))))
      (pss_one (ps_ret (pe_make T.mk_Term F2 hr rfl T.g_Term T.b_Term___init__ .nil passL (pa_cons (pe_cf T.text_of F1 (hr.mono (by decide)) (pa_cons (cb_tuple T.bi (pa_cons (pv 4) pa_nil)) pa_nil)) pa_nil)))))), ?_⟩
    refine ⟨Nat.zero_le _, fun l hl => ?_⟩
    refine ⟨_, rfl, _, rfl, _, rfl, _, rfl, by show 4 ≤ sizeLine; decide, fun p0 hp0 => ?_⟩
    have s1 : Same H (upd (upd H l (.lst [])) p0 (.tup [V.ref p1, .ref p2, .ref p3, .ref p4])) := (sNew hl).trans (sNew hp0)
    have n0 : l ≠ p0 := ne_of_none (H := upd H l (.lst [])) upd_same hp0
    refine ⟨p0, rfl, ⟨_, .inl (.inl upd_same)⟩, ?_⟩
    refine for_it (walk_tup (xs := [V.ref p1, .ref p2, .ref p3, .ref p4])) (fun n σ H' => ∃ (us : List V) (o5 o6 : Option V), σ = [some (.ref p1), some (.ref p2), some (.ref p3), some (.ref p4), some (.ref l), o5, o6] ∧ H' l = some (.lst us) ∧
        DpAll K H' us (([t1, t2, t3, t4].take n).map Tr.d) ∧ us.length = n ∧ Same H H' ∧ H' p0 = some (.tup [V.ref p1, .ref p2, .ref p3, .ref p4]))
      ⟨[], none, none, rfl, by rw [upd_ne n0, upd_same], .nil, rfl, s1, upd_same⟩ (fun n σ H' _ ⟨_, _, _, _, _, _, _, _, hp⟩ => .inl (.inl hp)) ?_ ?_
    · rintro n x σ H2 H2' hn ⟨us, o5, o6, rfl, hL, hD, ln, sm, hP⟩ ⟨rfl, hx⟩
      obtain ⟨q, t, rfl, ht, tq⟩ := get4T (K := K) (C := a.C_Term) hx h1 h2 h3 h4
      refine ⟨_, rfl, _, _, rfl, .own (tq.same sm), fun v H3 s3 got => ?_⟩
      have got' : Dp K H3 v t.d := got
      refine ⟨_, rfl, ?_⟩
      refine ⟨_, rfl, ?_⟩
      rw [none_tr got']
      have hL3 := s3 _ _ hL
      have hn' : n < 4 := hn
      refine ⟨_, rfl, .inl ⟨rfl, us, .inl (.inl hL3)⟩, _, rfl, l, us, v, rfl, rfl, hL3, by rw [ln]; exact Nat.lt_trans hn' (by decide), ?_⟩
      have tkk : TK H3 (upd H3 l (.lst (us ++ [v]))) := TK.lst hL3
      refine ⟨us ++ [v], _, _, rfl, upd_same, ?_, by rw [List.length_append, ln]; rfl, sUpd hl (sm.trans s3), by rw [upd_ne n0.symm]; exact s3 _ _ hP⟩
      rw [List.take_succ, ht]
      exact dpAll_tk (ts := [t1, t2, t3, t4].take n ++ [t]) tkk (by rw [List.map_append]; exact DpAll.app (dpAll_same s3 hD) (.cons got' .nil))
    · rintro σ H2 ⟨us, o5, o6, rfl, hL, hD, ln, sm, hP⟩
      refine ⟨_, rfl, tupL (.inl (.inl hL)) fun p5 H3 n5 s3 hp5 => ?_⟩
      have f1 : t1.Fine := by obtain ⟨_, _, _, _, f⟩ := h1; exact f
      have f2 : t2.Fine := by obtain ⟨_, _, _, _, f⟩ := h2; exact f
      have f3 : t3.Fine := by obtain ⟨_, _, _, _, f⟩ := h3; exact f
      have f4 : t4.Fine := by obtain ⟨_, _, _, _, f⟩ := h4; exact f
      have ok : (Tr.cho t1 t2 t3 t4).Ok := ⟨f1.1, f2.1, f3.1, f4.1⟩
      have hD' : DpAll K H3 us [t1.d, t2.d, t3.d, t4.d] := dpAll_same s3 hD
      have dp : Dp K H3 (.ref p5) (Tr.cho t1 t2 t3 t4).d := .tup (.inl (.inl hp5)) hD'
      refine ⟨_, _, rfl, dp, ok, hd, by decide, fun H4 s4 => ?_⟩
      intro x dx n1 n2 ne
      refine make_term ok hd n1 n2 ne fun H5 s5 tq => ⟨rfl, ?_⟩
      exact k _ _ (((sm.trans s3).trans s4).trans s5) tq
end
end Z
set_option maxRecDepth 100000
set_option maxHeartbeats 4000000
namespace Z
open PySem PySem.Spec PyProof.Rows L2
namespace Tr
def lv : Tr → List V
  | .con n => [.int n]
  | .var w => [.str w]
  | .cho a b c e => a.lv ++ b.lv ++ c.lv ++ e.lv
def ws : Tr → List Str
  | .con _ => []
  | .var w => [w]
  | .cho a b c e => a.ws ++ b.ws ++ c.ws ++ e.ws
def ns : Tr → List Int
  | .con n => [n]
  | .var _ => []
  | .cho a b c e => a.ns ++ b.ns ++ c.ns ++ e.ns
def kind : Tr → Str
  | .con _ => "constant"
  | .var _ => "variable"
  | .cho _ _ _ _ => "choice"
end Tr
def strV : V → Option Str
  | .str z => some z
  | _ => none
def intV : V → Option Int
  | .int z => some z
  | _ => none
theorem lv_ws : ∀ t : Tr, t.lv.filterMap strV = t.ws
  | .con n => rfl
  | .var w => rfl
  | .cho a b c e => by
    unfold Tr.lv Tr.ws
    rw [List.filterMap_append, List.filterMap_append, List.filterMap_append, lv_ws a, lv_ws b, lv_ws c, lv_ws e]
theorem lv_ns : ∀ t : Tr, t.lv.filterMap intV = t.ns
  | .con n => rfl
  | .var w => rfl
  | .cho a b c e => by
    unfold Tr.lv Tr.ns
    rw [List.filterMap_append, List.filterMap_append, List.filterMap_append, lv_ns a, lv_ns b, lv_ns c, lv_ns e]
def Leaf (v : V) : Prop := (∃ z, v = .str z ∧ Word z) ∨ ∃ n, v = .int n ∧ 0 ≤ n ∧ n ≤ 9
theorem lv_leaf : ∀ {t : Tr}, t.Ok → ∀ v ∈ t.lv, Leaf v
  | .con n, ok, v, h => .inr ⟨n, List.mem_singleton.mp h, ok.1, ok.2⟩
  | .var w, ok, v, h => .inl ⟨w, List.mem_singleton.mp h, ok⟩
  | .cho a b c e, ok, v, h => by
    obtain ⟨oa, ob, oc, oe⟩ : a.Ok ∧ b.Ok ∧ c.Ok ∧ e.Ok := ok
    unfold Tr.lv at h
    rw [List.mem_append, List.mem_append, List.mem_append] at h
    rcases h with ((h | h) | h) | h
    · exact lv_leaf oa v h
    · exact lv_leaf ob v h
    · exact lv_leaf oc v h
    · exact lv_leaf oe v h
theorem lv_len : ∀ t : Tr, t.lv.length ≤ 4 ^ (t.deep - 1)
  | .con n => Nat.le_refl _
  | .var w => Nat.le_refl _
  | .cho a b c e => by
    have h1 := lv_len a
    have h2 := lv_len b
    have h3 := lv_len c
    have h4 := lv_len e
    have d1 := deep_pos a
    have d2 := deep_pos b
    have d3 := deep_pos c
    have d4 := deep_pos e
    have hd : (Tr.cho a b c e).deep = 1 + max (max a.deep b.deep) (max c.deep e.deep) := rfl
    generalize em : max (max a.deep b.deep) (max c.deep e.deep) = m at hd
    have up : ∀ {x : Nat}, 1 ≤ x → x ≤ m → 4 ^ (x - 1) ≤ 4 ^ (m - 1) := fun {x} h1 h2 => Nat.pow_le_pow_right (by decide) (by omega)
    have u1 := up d1 (by omega)
    have u2 := up d2 (by omega)
    have u3 := up d3 (by omega)
    have u4 := up d4 (by omega)
    have hm : 1 ≤ m := by omega
    have e4 : 4 ^ ((Tr.cho a b c e).deep - 1) = 4 * 4 ^ (m - 1) := by
      rw [hd, show 1 + m - 1 = (m - 1) + 1 by omega, Nat.pow_succ, Nat.mul_comm]
    rw [e4]
    unfold Tr.lv
    rw [List.length_append, List.length_append, List.length_append]
    omega
theorem lv_16 {t : Tr} (h : t.deep ≤ 3) : t.lv.length ≤ 16 := by
  have h1 := lv_len t
  have h2 : 4 ^ (t.deep - 1) ≤ 4 ^ 2 := Nat.pow_le_pow_right (by decide) (by omega)
  omega
theorem flat_leaf {v : V} (h : Leaf v) : flatV v = true := by
  rcases h with ⟨z, rfl, _⟩ | ⟨n, rfl, _⟩ <;> rfl
theorem ws_len (t : Tr) : t.ws.length ≤ t.lv.length := by
  rw [← lv_ws]
  exact List.length_filterMap_le ..
theorem ns_len (t : Tr) : t.ns.length ≤ t.lv.length := by
  rw [← lv_ns]
  exact List.length_filterMap_le ..
theorem ws_word {t : Tr} (ok : t.Ok) : ∀ z ∈ t.ws, Word z := fun z h => by
  rw [← lv_ws] at h
  obtain ⟨v, hv, e⟩ := List.mem_filterMap.mp h
  rcases lv_leaf ok v hv with ⟨y, rfl, hy⟩ | ⟨n, rfl, _⟩
  · cases e
    exact hy
  · cases e
theorem ns_small {t : Tr} (ok : t.Ok) : ∀ z ∈ t.ns, 0 ≤ z ∧ z ≤ 9 := fun z h => by
  rw [← lv_ns] at h
  obtain ⟨v, hv, e⟩ := List.mem_filterMap.mp h
  rcases lv_leaf ok v hv with ⟨y, rfl, hy⟩ | ⟨n, rfl, hn⟩
  · cases e
  · cases e
    exact hn
section
variable {P : Program} {w : World} {K : PySem.W.Frag} {mg : Str → Option Value} {base : Heap} {a : Ad}
def spDeep (K : PySem.W.Frag) (n : Nat) : Sp := fun vs H Q _ => ∃ (v : V) (t : Tr), vs = [v] ∧ Dp K H v t.d ∧ t.deep ≤ n ∧ ∀ H', Same H H' → Q (.int t.deep) H'
theorem max4 {a b c e m : Int} (hm : m ∈ [a, b, c, e]) (h : ∀ y ∈ [a, b, c, e], y ≤ m) : m = max (max a b) (max c e) := by
  have h1 := h a (by simp)
  have h2 := h b (by simp)
  have h3 := h c (by simp)
  have h4 := h e (by simp)
  simp only [List.mem_cons, List.not_mem_nil, or_false] at hm
  omega
theorem ok_depth (T : Tx P K mg a) : ∀ n : Nat, FnOk P w K mg base CX0 (n + 1) a.f_depth_of a.d_depth_of ["plan"] (spDeep K n)
  | 0 => fnNo fun vs H Q E ⟨v, t, _, _, h, _⟩ => by
    have := deep_pos t
    omega
  | n + 1 => by
    have IH : FnOk P w K mg base CX0 (n + 1) a.f_depth_of a.d_depth_of ["plan"] (spDeep K n) := ok_depth T n
    refine T.depth_of.fn.ok sc_depth_of (fun vs H Q E h => ?_) (fun cdv A outer s H vs Q E hr h => ?_)
    · obtain ⟨v, t, rfl, _⟩ := h
      rfl
    · obtain ⟨v, t, rfl, hv, hd, q⟩ := h
      have nd := sc_depth_of.nd
      refine ⟨_, (pss_cons (ps_if (pt_not (pt_val (cb_isi T.bi (pa_cons (pv 0) (pa_cons (gl_ty rfl T.bi.tuple PyProof.Rows.boot_tuple) pa_nil))))) (pss_one (ps_ret pe_int)) pss_nil)
        (pss_one (ps_ret (pe_op op_addA pe_int (cb_max T.bi (pa_cons (pe_lc (own := [("part", 1)]) (by rfl) nd (pi_tup (pv 0)) (blkOk_by (own := [("part", 1)]) (N := ["plan", "part"]) (sc := defScope s_depth_of) (by decide +kernel)) (fun _ _ _ _ _ => (pg_name (i := 1) nd rfl (Or.inl rfl))) (fun _ _ _ _ _ => pts_nil) (fun _ _ _ _ _ => (cb_int T.bi (pa_cons (pe_cf T.depth_of IH hr (pa_cons (pv 1) pa_nil)) pa_nil)))) pa_nil)))))), ?_⟩
      refine ⟨_, rfl, isiTr hv ?_⟩
      refine ⟨_, rfl, ?_⟩
      cases t with
      | con m => exact q _ fun _ _ e => e
      | var x => exact q _ fun _ _ e => e
      | cho a1 b1 c1 e1 =>
        obtain ⟨p, v1, v2, v3, v4, rfl, sq, h1, h2, h3, h4⟩ := tr_cho hv
        refine ⟨_, rfl, p, rfl, ⟨_, sq⟩, fun D hD => ?_⟩
        refine lc_it (walk_tup (xs := [v1, v2, v3, v4])) (fun i H' => H' D = some (.lst (([a1, b1, c1, e1].take i).map fun t => V.int t.deep)) ∧ Same H H') ⟨upd_same, sNew hD⟩ (fun _ _ _ ⟨_, sm⟩ => SqT.same sm sq) ?_ ?_
        · rintro i x H1 H1' hi ⟨hA, sm⟩ ⟨rfl, hx⟩
          obtain ⟨t, ht, hdt⟩ := get4 (K := K) (H := H) hx h1 h2 h3 h4
          have hk := kid_deep ht
          refine ⟨rfl, _, rfl, x, t, rfl, tr_same sm hdt, by omega, fun H2 s2 => intI ?_⟩
          have hi' : i < 4 := hi
          refine ⟨_, s2 _ _ hA, ?_, ?_, sUpd hD (sm.trans s2)⟩
          · rw [List.length_map, List.length_take]
            exact Nat.lt_of_le_of_lt (Nat.min_le_left _ _) (Nat.lt_trans hi' (by decide))
          · rw [upd_same, List.take_succ, ht, List.map_append]
            rfl
        · rintro H1 ⟨hA, sm⟩
          refine ⟨.inr ⟨D, [(a1.deep : Int), b1.deep, c1.deep, e1.deep], rfl, .inl (.inl hA), by show 0 < 4; decide, fun m hm hy => addI ?_⟩⟩
          have e := max4 hm hy
          have hd' : (Tr.cho a1 b1 c1 e1).deep = 1 + max (max a1.deep b1.deep) (max c1.deep e1.deep) := rfl
          have : (1 : Int) + m = ((Tr.cho a1 b1 c1 e1).deep : Nat) := by rw [hd']; omega
          rw [this]
          exact q _ sm
def spLeaves (K : PySem.W.Frag) (n : Nat) : Sp := fun vs H Q _ => ∃ (v : V) (t : Tr), vs = [v] ∧ Dp K H v t.d ∧ t.deep ≤ n ∧ t.lv.length ≤ 1000 ∧ ∀ p H', Same H H' → H p = none → H' p = some (.lst t.lv) → Q (.ref p) H'
theorem kid_lv {a b c e t : Tr} {i : Nat} (h : [a, b, c, e][i]? = some t) : t.lv.length ≤ (Tr.cho a b c e).lv.length := by
  have : (Tr.cho a b c e).lv = a.lv ++ b.lv ++ c.lv ++ e.lv := rfl
  rw [this, List.length_append, List.length_append, List.length_append]
  rcases mem4 h with rfl | rfl | rfl | rfl <;> omega
theorem take_lv {a b c e t : Tr} {i : Nat} (h : [a, b, c, e][i]? = some t) : (([a, b, c, e].take i).map Tr.lv).flatten ++ t.lv = (([a, b, c, e].take (i + 1)).map Tr.lv).flatten := by
  rw [List.take_succ, h]
  simp
theorem all_lv {a b c e : Tr} : (([a, b, c, e].take 4).map Tr.lv).flatten = (Tr.cho a b c e).lv := by
  show a.lv ++ (b.lv ++ (c.lv ++ (e.lv ++ []))) = a.lv ++ b.lv ++ c.lv ++ e.lv
  simp
theorem part_lv {a b c e : Tr} (i : Nat) : (([a, b, c, e].take i).map Tr.lv).flatten.length ≤ (Tr.cho a b c e).lv.length := by
  rw [← all_lv]
  have : [a, b, c, e].take 4 = [a, b, c, e] := rfl
  rw [this]
  conv => rhs; rw [← List.take_append_drop i [a, b, c, e]]
  rw [List.map_append, List.flatten_append, List.length_append]
  omega
theorem ok_leaves (T : Tx P K mg a) : ∀ n : Nat, FnOk P w K mg base CX0 (n + 1) a.f_leaves_of a.d_leaves_of ["plan"] (spLeaves K n)
  | 0 => fnNo fun vs H Q E ⟨v, t, _, _, h, _⟩ => by
    have := deep_pos t
    omega
  | n + 1 => by
    have IH : FnOk P w K mg base CX0 (n + 1) a.f_leaves_of a.d_leaves_of ["plan"] (spLeaves K n) := ok_leaves T n
    refine T.leaves_of.fn.ok sc_leaves_of (fun vs H Q E h => ?_) (fun cdv A outer s H vs Q E hr h => ?_)
    · obtain ⟨v, t, rfl, _⟩ := h
      rfl
    · obtain ⟨v, t, rfl, hv, hd, hl, q⟩ := h
      have nd := sc_leaves_of.nd
      have sl := PySem.sizeLine_eq
      refine ⟨_, (pss_cons (ps_if (pt_not (pt_val (cb_isi T.bi (pa_cons (pv 0) (pa_cons (gl_ty rfl T.bi.tuple PyProof.Rows.boot_tuple) pa_nil))))) (pss_one (ps_ret (pe_lst (pa_cons (pv 0) pa_nil)))) pss_nil)
        (pss_cons (ps_set (i := 1) nd rfl (Or.inl rfl) (pe_lst pa_nil))
        (pss_cons (ps_for PassesOwn.never rfl (pi_tup (pv 0)) (pg_name (i := 2) nd rfl (Or.inl rfl)) (pss_one (ps_set (i := 1) nd rfl (Or.inl rfl) (pe_op op_addA (pv 1) (pe_cf T.leaves_of IH hr (pa_cons (pv 2) pa_nil))))))
        (pss_one (ps_ret (pv 1)))))), ?_⟩
      refine ⟨_, rfl, isiTr hv ?_⟩
      refine ⟨_, rfl, ?_⟩
      cases t with
      | con m =>
        obtain rfl := tr_con hv
        exact ⟨_, rfl, by show 1 ≤ sizeLine; decide, fun p hp => q p _ (sNew hp) hp upd_same⟩
      | var x =>
        obtain rfl := tr_var hv
        exact ⟨_, rfl, by show 1 ≤ sizeLine; decide, fun p hp => q p _ (sNew hp) hp upd_same⟩
      | cho a1 b1 c1 e1 =>
        obtain ⟨p, v1, v2, v3, v4, rfl, sq, h1, h2, h3, h4⟩ := tr_cho hv
        refine ⟨Nat.zero_le _, fun D hD => ?_⟩
        have sD := sNew (o := .lst []) hD
        refine ⟨_, rfl, p, rfl, ⟨_, SqT.same sD sq⟩, ?_⟩
        refine for_it (walk_tup (xs := [v1, v2, v3, v4])) (fun i σ H' => ∃ (r : Addr) (o2 : Option V), σ = [some (.ref p), some (.ref r), o2] ∧ H r = none ∧ H' r = some (.lst (([a1, b1, c1, e1].take i).map Tr.lv).flatten) ∧ Same H H')
          ⟨D, none, rfl, hD, upd_same, sD⟩ (fun _ _ _ _ ⟨_, _, _, _, _, sm⟩ => SqT.same sm sq) ?_ ?_
        · rintro i x σ H1 H1' hi ⟨r, o2, rfl, nr, hr', sm⟩ ⟨rfl, hx⟩
          obtain ⟨t, ht, hdt⟩ := get4 (K := K) (H := H) hx h1 h2 h3 h4
          have hk := kid_deep ht
          have hkl := kid_lv ht
          refine ⟨_, rfl, _, rfl, x, t, rfl, tr_same sm hdt, by omega, by omega, fun p2 H2 s2 n2 g2 => ?_⟩
          have fits : (([a1, b1, c1, e1].take i).map Tr.lv).flatten.length + t.lv.length ≤ sizeLine := by
            have := part_lv (a := a1) (b := b1) (c := c1) (e := e1) i
            omega
          refine addL (s2 _ _ hr') g2 fits fun p3 H3 n3 s3 g3 => ?_
          have np3 : H p3 = none := by
            cases e : H p3 with
            | none => rfl
            | some o =>
              have := (sm.trans s2) _ _ e
              rw [n3] at this
              cases this
          exact ⟨p3, _, rfl, np3, by rw [g3, take_lv ht], (sm.trans s2).trans s3⟩
        · rintro σ H1 ⟨r, o2, rfl, nr, hr', sm⟩
          refine ⟨_, rfl, q r H1 sm nr ?_⟩
          rw [hr']
          exact congrArg (fun z => some (HO.lst z)) all_lv
end
end Z
set_option maxRecDepth 100000
set_option maxHeartbeats 4000000
namespace Z
open PySem PySem.Spec PyProof.Rows L2
theorem ascS_mors (zs : List Str) : ascS (mors [] zs) = ascS zs := Ord.asc_eq fun y => by rw [mem_mors]; simp
theorem ascI_mors (zs : List Int) : ascI (mors [] zs) = ascI zs := Ord.asc_eq fun y => by rw [mem_mors]; simp
theorem mors_snoc {κ : Type} [DecidableEq κ] {zs : List κ} {i : Nat} {z : κ} (h : zs[i]? = some z) : mor (mors [] (zs.take i)) z = mors [] (zs.take (i + 1)) := by
  unfold mors
  rw [List.take_succ, h]
  show _ = List.foldl mor [] (zs.take i ++ [z])
  rw [List.foldl_append]
  rfl
theorem mors_few {κ : Type} [DecidableEq κ] {zs : List κ} {i : Nat} : (mors [] (zs.take i)).length ≤ zs.length := by
  have h1 := len_mors (l := []) (ks := zs.take i)
  have h2 : (zs.take i).length ≤ zs.length := by rw [List.length_take]; exact Nat.min_le_right ..
  simp only [List.length_nil] at h1
  omega
section
variable {P : Program} {w : World} {K : PySem.W.Frag} {mg : Str → Option Value} {base : Heap} {a : Ad}
def spAscW (K : PySem.W.Frag) : Sp := fun vs H Q _ => ∃ (p : Addr) (zs : List Str), vs = [.ref p] ∧ SqL K H p (zs.map V.str) ∧ zs.length < 64 ∧ ∀ q H', Same H H' → H q = none → H' q = some (.lst ((ascS zs).map V.str)) → Q (.ref q) H'
theorem ok_ascW (T : Tx P K mg a) : FnOk P w K mg base CX0 1 a.f_ascending_words a.d_ascending_words ["words"] (spAscW K) := by
  refine T.ascending_words.fn.ok sc_ascending_words (fun vs H Q E h => ?_) (fun cdv A outer s H vs Q E hr h => ?_)
  · obtain ⟨p, zs, rfl, _⟩ := h
    rfl
  · obtain ⟨p, zs, rfl, hs, few, q⟩ := h
    have nd := sc_ascending_words.nd
    refine ⟨_, (pss_one (ps_ret (pe_callB (call_sortHS (P := P) (w := w) rfl) rfl T.bi.sorted PyProof.Rows.boot_sorted (pa_cons (pe_scH (strSK P w) (own := [("word", 1)]) rfl nd (pi_list (pv 0)) (blkOk_by (own := [("word", 1)]) (N := ["words", "word"]) (sc := defScope s_ascending_words) (by decide +kernel)) (fun _ _ _ _ _ => (pg_name (i := 1) nd rfl (Or.inl rfl))) (fun _ _ _ _ _ => pts_nil) (fun _ _ _ _ _ => (cb_str T.bi (pa_cons (pv 1) pa_nil)))) pa_nil)))), ?_⟩
    refine ⟨_, rfl, p, rfl, ⟨_, hs⟩, fun D nD => ?_⟩
    refine sch_it (walk_list (xs := zs.map V.str)) (fun i H' => Same H H' ∧ H' D = some (SetH (strSK P w) D (mors [] (zs.take i)))) ⟨sNew nD, upd_same⟩ (fun i H' _ ⟨sm, _⟩ => SqL.same sm hs) ?_ ?_
    · rintro i x H1 H1' hi ⟨sm, hD⟩ ⟨rfl, hx⟩
      rw [List.getElem?_map] at hx
      obtain ⟨z, hz, rfl⟩ : ∃ z, zs[i]? = some z ∧ x = V.str z := by
        cases e : zs[i]? with
        | none => rw [e] at hx; cases hx
        | some z => rw [e] at hx; cases hx; exact ⟨z, rfl, rfl⟩
      refine ⟨rfl, _, rfl, strS ?_⟩
      have h1 := mors_few (zs := zs) (i := i)
      refine ⟨z, _, rfl, hD, by unfold scanBound; omega, sUpd nD sm, ?_⟩
      rw [upd_same, mors_snoc hz]
    · rintro H1 ⟨sm, hD⟩
      have e : (zs.map V.str).length = zs.length := List.length_map ..
      rw [e, List.take_length] at hD
      refine ⟨D, _, rfl, hD, by have := mors_few (zs := zs) (i := zs.length); rw [List.take_length] at this; omega, fun r nr => ?_⟩
      refine q r _ (sm.trans (sNew nr)) ?_ (by rw [upd_same, ascS_mors])
      cases e : H r with
      | none => rfl
      | some o =>
        have := sm _ _ e
        rw [nr] at this
        cases this
def spAscN (K : PySem.W.Frag) : Sp := fun vs H Q _ => ∃ (p : Addr) (zs : List Int), vs = [.ref p] ∧ SqL K H p (zs.map V.int) ∧ zs.length < 64 ∧ ∀ q H', Same H H' → H q = none → H' q = some (.lst ((ascI zs).map V.int)) → Q (.ref q) H'
theorem ok_ascN (T : Tx P K mg a) : FnOk P w K mg base CX0 1 a.f_ascending_numbers a.d_ascending_numbers ["numbers"] (spAscN K) := by
  refine T.ascending_numbers.fn.ok sc_ascending_numbers (fun vs H Q E h => ?_) (fun cdv A outer s H vs Q E hr h => ?_)
  · obtain ⟨p, zs, rfl, _⟩ := h
    rfl
  · obtain ⟨p, zs, rfl, hs, few, q⟩ := h
    have nd := sc_ascending_numbers.nd
    refine ⟨_, (pss_one (ps_ret (pe_callB (call_sortHI (P := P) (w := w) rfl) rfl T.bi.sorted PyProof.Rows.boot_sorted (pa_cons (pe_scH (intSK P w) (own := [("number", 1)]) rfl nd (pi_list (pv 0)) (blkOk_by (own := [("number", 1)]) (N := ["numbers", "number"]) (sc := defScope s_ascending_numbers) (by decide +kernel)) (fun _ _ _ _ _ => (pg_name (i := 1) nd rfl (Or.inl rfl))) (fun _ _ _ _ _ => pts_nil) (fun _ _ _ _ _ => (cb_int T.bi (pa_cons (pv 1) pa_nil)))) pa_nil)))), ?_⟩
    refine ⟨_, rfl, p, rfl, ⟨_, hs⟩, fun D nD => ?_⟩
    refine sch_it (walk_list (xs := zs.map V.int)) (fun i H' => Same H H' ∧ H' D = some (SetH (intSK P w) D (mors [] (zs.take i)))) ⟨sNew nD, upd_same⟩ (fun i H' _ ⟨sm, _⟩ => SqL.same sm hs) ?_ ?_
    · rintro i x H1 H1' hi ⟨sm, hD⟩ ⟨rfl, hx⟩
      rw [List.getElem?_map] at hx
      obtain ⟨z, hz, rfl⟩ : ∃ z, zs[i]? = some z ∧ x = V.int z := by
        cases e : zs[i]? with
        | none => rw [e] at hx; cases hx
        | some z => rw [e] at hx; cases hx; exact ⟨z, rfl, rfl⟩
      refine ⟨rfl, _, rfl, intI ?_⟩
      have h1 := mors_few (zs := zs) (i := i)
      refine ⟨z, _, rfl, hD, by unfold scanBound; omega, sUpd nD sm, ?_⟩
      rw [upd_same, mors_snoc hz]
    · rintro H1 ⟨sm, hD⟩
      have e : (zs.map V.int).length = zs.length := List.length_map ..
      rw [e, List.take_length] at hD
      refine ⟨D, _, rfl, hD, by have := mors_few (zs := zs) (i := zs.length); rw [List.take_length] at this; omega, fun r nr => ?_⟩
      refine q r _ (sm.trans (sNew nr)) ?_ (by rw [upd_same, ascI_mors])
      cases e : H r with
      | none => rfl
      | some o =>
        have := sm _ _ e
        rw [nr] at this
        cases this
end
end Z
set_option maxRecDepth 100000
set_option maxHeartbeats 4000000
namespace Z
open PySem PySem.Spec PyProof.Rows L2
theorem fm_snoc {α β : Type} {f : α → Option β} {xs : List α} {i : Nat} {x : α} (h : xs[i]? = some x) : (xs.take (i + 1)).filterMap f = (xs.take i).filterMap f ++ (match f x with | some y => [y] | none => []) := by
  rw [List.take_succ, h, List.filterMap_append]
  congr 1
  show List.filterMap f [x] = _
  cases hf : f x <;> simp [List.filterMap, hf]
theorem leaf_cases {v : V} (h : Leaf v) : (∃ z, v = .str z ∧ Word z) ∨ ∃ n, v = .int n ∧ 0 ≤ n ∧ n ≤ 9 := h
theorem lv_at {t : Tr} {i : Nat} {x : V} (ok : t.Ok) (h : t.lv[i]? = some x) : Leaf x := lv_leaf ok x (List.mem_of_getElem? h)
theorem fm_len {α β : Type} {f : α → Option β} {xs : List α} {i : Nat} : ((xs.take i).filterMap f).length ≤ xs.length :=
  Nat.le_trans (List.length_filterMap_le ..) (by rw [List.length_take]; exact Nat.min_le_right ..)
theorem sl1k : 1000 ≤ sizeLine := by decide
def Tr.at (t : Tr) (x : V) : Bool := t.lv.any fun y => decide (y = x)
section
variable {P : Program} {w : World} {K : PySem.W.Frag} {mg : Str → Option Value} {base : Heap} {a : Ad}
def spTDepth (K : PySem.W.Frag) (C : Addr) : Sp := fun vs H Q _ => ∃ (p : Addr) (t : Tr), vs = [.ref p] ∧ TermAt K C H p t ∧ t.deep ≤ 3 ∧ ∀ H', Same H H' → Q (.int t.deep) H'
theorem ok_tdepth (T : Tx P K mg a) : FnOk P w K mg base CX0 5 a.f_Term_depth a.d_Term_depth ["self"] (spTDepth K a.C_Term) := by
  have F1 : FnOk P w K mg base CX0 4 a.f_depth_of a.d_depth_of ["plan"] (spDeep K 3) := ok_depth T 3
  refine T.Term_depth.ok sc_Term_depth (fun vs H Q E h => ?_) (fun cdv A outer s H vs Q E hr h => ?_)
  · obtain ⟨p, t, rfl, _⟩ := h
    rfl
  · obtain ⟨p, t, rfl, ⟨dx, u, h1, h2, h3⟩, hd, k⟩ := h
    exact ⟨_, pss_one (ps_ret (pe_cf T.depth_of F1 hr (pa_cons (pe_fld (pv 0) rfl) pa_nil))), _, rfl, p, _, dx, _, u, rfl, h1, T.c_Term, T.no_Term_tree, rfl, u, t, rfl, h2, hd, k⟩
def spTKind (K : PySem.W.Frag) (C : Addr) : Sp := fun vs H Q _ => ∃ (p : Addr) (t : Tr), vs = [.ref p] ∧ TermAt K C H p t ∧ Q (.str t.kind) H
theorem ok_tkind (T : Tx P K mg a) : FnOk P w K mg base CX0 2 a.f_Term_kind a.d_Term_kind ["self"] (spTKind K a.C_Term) := by
  have F1 : FnOk P w K mg base CX0 1 a.f_is_whole a.d_is_whole ["value"] (spWhole K) := ok_whole T
  refine T.Term_kind.ok sc_Term_kind (fun vs H Q E h => ?_) (fun cdv A outer s H vs Q E hr h => ?_)
  · obtain ⟨p, t, rfl, _⟩ := h
    rfl
  · obtain ⟨p, t, rfl, ⟨dx, u, h1, h2, h3⟩, k⟩ := h
    refine ⟨_, (pss_cons (ps_if (pt_val (cb_isi T.bi (pa_cons (pe_fld (pv 0) rfl) (pa_cons (gl_ty rfl T.bi.tuple PyProof.Rows.boot_tuple) pa_nil)))) (pss_one (ps_ret pe_str)) pss_nil)
      (pss_one (ps_ret (pe_ifExp (pt_val (pe_cf T.is_whole F1 hr (pa_cons (pe_fld (pv 0) rfl) pa_nil))) pe_str pe_str)))), ?_⟩
    refine ⟨_, rfl, p, _, dx, _, u, rfl, h1, T.c_Term, T.no_Term_tree, rfl, isiTr h2 ?_⟩
    refine ⟨_, rfl, ?_⟩
    cases t with
    | cho => exact k
    | con m =>
      obtain rfl := tr_con h2
      exact ⟨_, rfl, p, _, dx, _, _, rfl, h1, T.c_Term, T.no_Term_tree, rfl, .int m, "int", true, false, rfl, .base (.int m), k_ii, k_ib, _, rfl, k⟩
    | var x =>
      obtain rfl := tr_var h2
      exact ⟨_, rfl, p, _, dx, _, _, rfl, h1, T.c_Term, T.no_Term_tree, rfl, .str x, "str", false, false, rfl, .base (.str x), k_si, by decide +kernel, _, rfl, k⟩
def spTVars (K : PySem.W.Frag) (C : Addr) : Sp := fun vs H Q _ => ∃ (p : Addr) (t : Tr), vs = [.ref p] ∧ TermAt K C H p t ∧ t.deep ≤ 3 ∧ ∀ q H', Same H H' → H q = none → H' q = some (.lst ((ascS t.ws).map V.str)) → Q (.ref q) H'
theorem back_none {H H' : Hp} {q : Addr} (s : Same H H') (n : H' q = none) : H q = none := by
  cases e : H q with
  | none => rfl
  | some o =>
    have := s _ _ e
    rw [n] at this
    cases this
theorem ok_tvars (T : Tx P K mg a) : FnOk P w K mg base CX0 5 a.f_Term_variables a.d_Term_variables ["self"] (spTVars K a.C_Term) := by
  have F1 : FnOk P w K mg base CX0 4 a.f_leaves_of a.d_leaves_of ["plan"] (spLeaves K 3) := ok_leaves T 3
  have F2 : FnOk P w K mg base CX0 1 a.f_ascending_words a.d_ascending_words ["words"] (spAscW K) := ok_ascW T
  refine T.Term_variables.ok sc_Term_variables (fun vs H Q E h => ?_) (fun cdv A outer s H vs Q E hr h => ?_)
  · obtain ⟨p, t, rfl, _⟩ := h
    rfl
  · obtain ⟨p, t, rfl, ⟨dx, u, h1, h2, h3⟩, hd, k⟩ := h
    have nd := sc_Term_variables.nd
    have l16 := lv_16 hd
    refine ⟨_, (pss_one (ps_ret (pe_cf T.ascending_words F2 (hr.mono (by decide)) (pa_cons (pe_lc (own := [("leaf", 1)]) (by rfl) nd (pi_list (pe_cf T.leaves_of F1 hr (pa_cons (pe_fld (pv 0) rfl) pa_nil))) (blkOk_by (own := [("leaf", 1)]) (N := ["self", "leaf"]) (sc := defScope s_Term_variables) (by decide +kernel)) (fun _ _ _ _ _ => (pg_name (i := 1) nd rfl (Or.inl rfl))) (fun _ _ _ _ _ => pts_one (pt_val (cb_isiA (K := K) T.bi (pa_cons (pv 1) (pa_cons (gl_ty rfl T.bi.str PyProof.Rows.boot_str) pa_nil))))) (fun _ _ _ _ _ => (pv 1))) pa_nil)))), ?_⟩
    refine ⟨_, rfl, p, _, dx, _, u, rfl, h1, T.c_Term, T.no_Term_tree, rfl, u, t, rfl, h2, hd, by omega, fun L H1 s1 nL hL => ?_⟩
    refine ⟨L, rfl, ⟨_, .inl (.inl hL)⟩, fun D nD => ?_⟩
    refine lc_it (walk_list (xs := t.lv)) (fun i H' => H' D = some (.lst (((t.lv.take i).filterMap strV).map V.str)) ∧ Same H1 H') ⟨upd_same, sNew nD⟩ (fun _ _ _ ⟨_, sm⟩ => .inl (.inl (sm _ _ hL))) ?_ ?_
    · rintro i x H2 H2' hi ⟨hA, sm⟩ ⟨rfl, hx⟩
      have few := fm_len (f := strV) (xs := t.lv) (i := i)
      rcases lv_at h3.1 hx with ⟨z, rfl, hz⟩ | ⟨m, rfl, hm⟩
      · refine ⟨rfl, _, rfl, ⟨isiTy (.base (.str z)) k_ss ?_⟩⟩
        refine ⟨_, rfl, ?_⟩
        refine ⟨_, rfl, _, hA, by rw [List.length_map]; have := sl1k; omega, ?_, sUpd nD sm⟩
        rw [upd_same, fm_snoc hx, List.map_append]
        rfl
      · refine ⟨rfl, _, rfl, ⟨isiTy (.base (.int m)) (by decide +kernel : kitB "int" "str" = some false) ?_⟩⟩
        refine ⟨_, rfl, ?_⟩
        refine ⟨?_, sm⟩
        rw [hA, fm_snoc hx]
        show some (HO.lst (List.map V.str (List.filterMap strV (List.take i t.lv)))) = some (HO.lst (List.map V.str (List.filterMap strV (List.take i t.lv) ++ [])))
        rw [List.append_nil]
    · rintro H2 ⟨hA, sm⟩
      rw [List.take_length, lv_ws] at hA
      have few := ws_len t
      refine ⟨D, t.ws, rfl, .inl (.inl hA), by omega, fun q H3 s3 nq hq => ?_⟩
      exact k q H3 ((s1.trans sm).trans s3) (back_none (s1.trans sm) nq) hq
def spTCons (K : PySem.W.Frag) (C : Addr) : Sp := fun vs H Q _ => ∃ (p : Addr) (t : Tr), vs = [.ref p] ∧ TermAt K C H p t ∧ t.deep ≤ 3 ∧ ∀ q H', Same H H' → H q = none → H' q = some (.lst ((ascI t.ns).map V.int)) → Q (.ref q) H'
theorem ok_tcons (T : Tx P K mg a) : FnOk P w K mg base CX0 5 a.f_Term_constants a.d_Term_constants ["self"] (spTCons K a.C_Term) := by
  have F1 : FnOk P w K mg base CX0 4 a.f_leaves_of a.d_leaves_of ["plan"] (spLeaves K 3) := ok_leaves T 3
  have F2 : FnOk P w K mg base CX0 1 a.f_ascending_numbers a.d_ascending_numbers ["numbers"] (spAscN K) := ok_ascN T
  have F3 : FnOk P w K mg base CX0 1 a.f_is_whole a.d_is_whole ["value"] (spWhole K) := ok_whole T
  refine T.Term_constants.ok sc_Term_constants (fun vs H Q E h => ?_) (fun cdv A outer s H vs Q E hr h => ?_)
  · obtain ⟨p, t, rfl, _⟩ := h
    rfl
  · obtain ⟨p, t, rfl, ⟨dx, u, h1, h2, h3⟩, hd, k⟩ := h
    have nd := sc_Term_constants.nd
    have l16 := lv_16 hd
    have hr1 : Room 1 _ := hr.mono (by decide)
    refine ⟨_, (pss_one (ps_ret (pe_cf T.ascending_numbers F2 (hr.mono (by decide)) (pa_cons (pe_lc (own := [("leaf", 1)]) (by rfl) nd (pi_list (pe_cf T.leaves_of F1 hr (pa_cons (pe_fld (pv 0) rfl) pa_nil))) (blkOk_by (own := [("leaf", 1)]) (N := ["self", "leaf"]) (sc := defScope s_Term_constants) (by decide +kernel)) (fun _ _ _ _ _ => (pg_name (i := 1) nd rfl (Or.inl rfl))) (fun _ _ _ _ _ => pts_one (pt_val (pe_cf T.is_whole F3 hr1 (pa_cons (pv 1) pa_nil)))) (fun _ _ _ _ _ => (pv 1))) pa_nil)))), ?_⟩
    refine ⟨_, rfl, p, _, dx, _, u, rfl, h1, T.c_Term, T.no_Term_tree, rfl, u, t, rfl, h2, hd, by omega, fun L H1 s1 nL hL => ?_⟩
    refine ⟨L, rfl, ⟨_, .inl (.inl hL)⟩, fun D nD => ?_⟩
    refine lc_it (walk_list (xs := t.lv)) (fun i H' => H' D = some (.lst (((t.lv.take i).filterMap intV).map V.int)) ∧ Same H1 H') ⟨upd_same, sNew nD⟩ (fun _ _ _ ⟨_, sm⟩ => .inl (.inl (sm _ _ hL))) ?_ ?_
    · rintro i x H2 H2' hi ⟨hA, sm⟩ ⟨rfl, hx⟩
      have few := fm_len (f := intV) (xs := t.lv) (i := i)
      rcases lv_at h3.1 hx with ⟨z, rfl, hz⟩ | ⟨m, rfl, hm⟩
      · refine ⟨rfl, _, rfl, .str z, "str", false, false, rfl, .base (.str z), k_si, (by decide +kernel : kitB "str" "bool" = some false), ?_⟩
        refine ⟨_, rfl, ?_⟩
        refine ⟨?_, sm⟩
        rw [hA, fm_snoc hx]
        show some (HO.lst (List.map V.int (List.filterMap intV (List.take i t.lv)))) = some (HO.lst (List.map V.int (List.filterMap intV (List.take i t.lv) ++ [])))
        rw [List.append_nil]
      · refine ⟨rfl, _, rfl, .int m, "int", true, false, rfl, .base (.int m), k_ii, k_ib, ?_⟩
        refine ⟨_, rfl, ?_⟩
        refine ⟨_, rfl, _, hA, by rw [List.length_map]; have := sl1k; omega, ?_, sUpd nD sm⟩
        rw [upd_same, fm_snoc hx, List.map_append]
        rfl
    · rintro H2 ⟨hA, sm⟩
      rw [List.take_length, lv_ns] at hA
      have few := ns_len t
      refine ⟨D, t.ns, rfl, .inl (.inl hA), by omega, fun q H3 s3 nq hq => ?_⟩
      exact k q H3 ((s1.trans sm).trans s3) (back_none (s1.trans sm) nq) hq
def spTLen (K : PySem.W.Frag) (C : Addr) : Sp := fun vs H Q _ => ∃ (p : Addr) (t : Tr), vs = [.ref p] ∧ TermAt K C H p t ∧ t.deep ≤ 3 ∧ ∀ H', Same H H' → Q (.int t.lv.length) H'
theorem ok_tlen (T : Tx P K mg a) : FnOk P w K mg base CX0 5 a.f_Term___len__ a.d_Term___len__ ["self"] (spTLen K a.C_Term) := by
  have F1 : FnOk P w K mg base CX0 4 a.f_leaves_of a.d_leaves_of ["plan"] (spLeaves K 3) := ok_leaves T 3
  refine T.Term___len__.ok sc_Term___len__ (fun vs H Q E h => ?_) (fun cdv A outer s H vs Q E hr h => ?_)
  · obtain ⟨p, t, rfl, _⟩ := h
    rfl
  · obtain ⟨p, t, rfl, ⟨dx, u, h1, h2, h3⟩, hd, k⟩ := h
    have l16 := lv_16 hd
    refine ⟨_, pss_one (ps_ret (cb_len T.bi (pa_cons (pe_cf T.leaves_of F1 hr (pa_cons (pe_fld (pv 0) rfl) pa_nil)) pa_nil))), ?_⟩
    exact ⟨_, rfl, p, _, dx, _, u, rfl, h1, T.c_Term, T.no_Term_tree, rfl, u, t, rfl, h2, hd, by omega, fun L H1 s1 nL hL => lenL (.inl (.inl hL)) (k _ s1)⟩
def spTIn (K : PySem.W.Frag) (C : Addr) : Sp := fun vs H Q _ => ∃ (p : Addr) (t : Tr) (x : V), vs = [.ref p, x] ∧ TermAt K C H p t ∧ t.deep ≤ 3 ∧
  (((∃ z, x = .str z) ∨ ∃ n, x = .int n) ∧ (∀ H', Same H H' → Q (.bl (t.at x)) H') ∨ (∃ ty r1 r2, TyX K H x (.type ty) ∧ kitB ty "str" = some false ∧ kitB ty "int" = some r1 ∧ kitB ty "bool" = some r2 ∧ (r1 && !r2) = false ∧ Q (.bl false) H))
theorem any_snoc {α : Type} {f : α → Bool} {xs : List α} {i : Nat} {x : α} (h : xs[i]? = some x) : (xs.take (i + 1)).any f = ((xs.take i).any f || f x) := by
  rw [List.take_succ, h, List.any_append]
  simp
theorem ok_tin (T : Tx P K mg a) : FnOk P w K mg base CX0 5 a.f_Term___contains__ a.d_Term___contains__ ["self", "value"] (spTIn K a.C_Term) := by
  have F1 : FnOk P w K mg base CX0 4 a.f_leaves_of a.d_leaves_of ["plan"] (spLeaves K 3) := ok_leaves T 3
  have F3 : FnOk P w K mg base CX0 1 a.f_is_whole a.d_is_whole ["value"] (spWhole K) := ok_whole T
  refine T.Term___contains__.ok sc_Term___contains__ (fun vs H Q E h => ?_) (fun cdv A outer s H vs Q E hr h => ?_)
  · obtain ⟨p, t, x, rfl, _⟩ := h
    rfl
  · obtain ⟨p, t, x, rfl, ⟨dx, u, h1, h2, h3⟩, hd, h⟩ := h
    have nd := sc_Term___contains__.nd
    have l16 := lv_16 hd
    have hr1 : Room 1 _ := hr.mono (by decide)
    refine ⟨_, (pss_cons (ps_if (PW.pt (pw_and (pt_not (pt_val (cb_isi T.bi (pa_cons (pv 1) (pa_cons (gl_ty rfl T.bi.str PyProof.Rows.boot_str) pa_nil))))) (pw_and1 (pt_not (pt_val (pe_cf T.is_whole F3 hr1 (pa_cons (pv 1) pa_nil))))))) (pss_one (ps_ret pe_bl)) pss_nil)
      (pss_one (ps_ret (pe_cmpR (op_neX hr) (pe_lc (own := [("leaf", 2)]) (by rfl) nd (pi_list (pe_cf T.leaves_of F1 hr (pa_cons (pe_fld (pv 0) rfl) pa_nil))) (blkOk_by (own := [("leaf", 2)]) (N := ["self", "value", "leaf"]) (sc := defScope s_Term___contains__) (by decide +kernel)) (fun _ _ _ _ _ => (pg_name (i := 2) nd rfl (Or.inl rfl))) (fun _ _ _ _ _ => pts_one (pt_cmpR (op_eqX (K := K) hr) (pv 2) (pv 1) (nomark _))) (fun _ _ _ _ _ => (pv 2))) (pe_lst pa_nil) (nomark _))))), ?_⟩
    have go : ((∃ z, x = .str z) ∨ ∃ n, x = .int n) → (∀ H', Same H H' → Q (.bl (t.at x)) H') → (tRet (tOp (rNeX K) (tLc (iList K (tCall (spLeaves K 3) [] E0 (tCons (tFld K (tVar 0) "tree") tNil))) (gName 2) (tTest (tOp (rEqX K) (tVar 2) (tVar 1))) (tVar 2) [2]) (tLst tNil))) { nx := fun _ H' => Q .non H', rt := Q } [some (.ref p), some x, none] H := by
      intro hx k
      refine ⟨_, rfl, p, _, dx, _, u, rfl, h1, T.c_Term, T.no_Term_tree, rfl, u, t, rfl, h2, hd, by omega, fun L H1 s1 nL hL => ?_⟩
      refine ⟨L, rfl, ⟨_, .inl (.inl hL)⟩, fun D nD => ?_⟩
      refine lc_it (walk_list (xs := t.lv)) (fun i H' => ∃ acc : List V, H' D = some (.lst acc) ∧ Same H1 H' ∧ acc.length ≤ i ∧ (!acc.isEmpty) = (t.lv.take i).any fun y => decide (y = x)) ⟨[], upd_same, sNew nD, Nat.le_refl _, rfl⟩ (fun _ _ _ ⟨_, _, sm, _⟩ => .inl (.inl (sm _ _ hL))) ?_ ?_
      · rintro i y H2 H2' hi ⟨acc, hA, sm, ln, em⟩ ⟨rfl, hy⟩
        have sc : scal y x = true := by
          rcases lv_at h3.1 hy with ⟨z, rfl, _⟩ | ⟨m, rfl, _⟩ <;> rcases hx with ⟨z', rfl⟩ | ⟨n', rfl⟩ <;> rfl
        refine ⟨rfl, _, rfl, _, rfl, ⟨.inl ⟨sc, ?_⟩⟩⟩
        refine ⟨_, rfl, ?_⟩
        cases hb : decide (y = x) with
        | true =>
          refine ⟨_, rfl, acc, hA, by have := sl1k; have : i < t.lv.length := hi; omega, acc ++ [y], upd_same, sUpd nD sm, by rw [List.length_append]; exact Nat.succ_le_succ ln, ?_⟩
          rw [any_snoc hy, hb]
          simp
        | false =>
          refine ⟨acc, hA, sm, Nat.le_succ_of_le ln, ?_⟩
          rw [any_snoc hy, hb, em, Bool.or_false]
      · rintro H2 ⟨acc, hA, sm, ln, em⟩
        rw [List.take_length] at em
        refine ⟨Nat.zero_le _, fun b hb => ?_⟩
        refine neL0 (.inl (.inl (by rw [upd_ne (ne_of_none hA hb)]; exact hA))) upd_same ?_
        rw [em]
        exact k _ ((s1.trans sm).trans (sNew hb))
    rcases h with ⟨hx, k⟩ | ⟨ty, r1, r2, hty, ks, ki, kb, e, k⟩
    · rcases hx with ⟨z, rfl⟩ | ⟨n, rfl⟩
      · refine ⟨_, rfl, isiTy (.base (.str z)) k_ss ?_⟩
        refine ⟨_, rfl, ?_⟩
        exact go (.inl ⟨z, rfl⟩) k
      · refine ⟨_, rfl, isiTy (.base (.int n)) (by decide +kernel : kitB "int" "str" = some false) ?_⟩
        refine ⟨_, rfl, ?_⟩
        refine ⟨_, rfl, .int n, "int", true, false, rfl, .base (.int n), k_ii, k_ib, ?_⟩
        refine ⟨_, rfl, ?_⟩
        exact go (.inr ⟨n, rfl⟩) k
    · refine ⟨_, rfl, isiTy hty ks ?_⟩
      refine ⟨_, rfl, ?_⟩
      refine ⟨_, rfl, x, ty, r1, r2, rfl, hty, ki, kb, ?_⟩
      rw [e]
      exact ⟨_, rfl, k⟩
end
end Z
set_option maxRecDepth 100000
set_option maxHeartbeats 4000000
namespace Z
open PySem PySem.Spec PyProof.Rows L2
theorem b01 (b : Bool) : (if b = true then (1 : Int) else 0).natAbs < 2 ^ 1 := by cases b <;> decide
theorem bits_lt {n : Int} {N : Nat} (h : Builtin.Int.intBits n ≤ N) : n.natAbs < 2 ^ N := by
  by_cases h0 : n = 0
  · subst h0
    exact Nat.two_pow_pos N
  · have e : Builtin.Int.intBits n = n.natAbs.log2 + 1 := by
      unfold Builtin.Int.intBits
      rw [if_neg (by simpa using h0)]
    rw [e] at h
    exact Nat.lt_of_lt_of_le Nat.lt_log2_self (Nat.pow_le_pow_right (by decide) h)
section
variable {P : Program} {w : World} {K : PySem.W.Frag} {mg : Str → Option Value} {base : Heap} {a : Ad}
def PoolAt (H : Hp) (l : Addr) : Prop := ∃ p q : Int, H l = some (.lst [.int p, .int q]) ∧ 0 ≤ q ∧ q < 2147483647
def spPool (K : PySem.W.Frag) : Sp := fun vs H Q _ => ∃ (s : Addr) (ns : List Int) (k : Nat), vs = [.ref s, .int (k : Nat)] ∧ SqL K H s (ns.map V.int) ∧ (∀ z ∈ ns, Builtin.Int.intBits z ≤ 1048576) ∧ k ≤ 1000 ∧
  ∀ l H', Same H H' → H l = none → PoolAt H' l → Q (.ref l) H'
theorem ok_pool (T : Tx P K mg a) : FnOk P w K mg base CX0 1 a.f__law_pool a.d__law_pool ["script", "k"] (spPool K) := by
  refine T._law_pool.fn.ok sc__law_pool (fun vs H Q E h => ?_) (fun cdv A outer s H vs Q E hr h => ?_)
  · obtain ⟨l, ns, k, rfl, _⟩ := h
    rfl
  · obtain ⟨l, ns, k, rfl, hs, hb, hk, q⟩ := h
    have nd := sc__law_pool.nd
    refine ⟨_, (pss_cons (ps_set (i := 2) nd rfl (Or.inl rfl) pe_int)
      (pss_cons (ps_if (pt_cmpR op_lt (pv 1) (cb_len T.bi (pa_cons (pv 0) pa_nil)) (nomark _))
        (pss_one (ps_set (i := 2) nd rfl (Or.inl rfl) (pe_ix ix_A (pv 0) (pv 1) (fun _ _ => rfl)))) pss_nil)
      (pss_cons (ps_set (i := 3) nd rfl (Or.inl rfl) (cb_max T.bi (pa_cons (cb_int T.bi (pa_cons (pv 2) pa_nil)) (pa_cons (cb_int T.bi (pa_cons (pe_op op_sub (pe_un un_neg pe_int) (pv 2)) pa_nil)) pa_nil))))
      (pss_cons (ps_set (i := 4) nd rfl (Or.inl rfl) (pe_op op_mod (cb_int T.bi (pa_cons (pe_op op_mulA (pe_op op_addA (pe_op op_addA (pe_op op_addA (pe_op op_mod (cb_int T.bi (pa_cons (pv 3) pa_nil)) pe_int) (pe_op op_mulA (pe_op op_mulA pe_int (pv 1)) (pv 1))) (pe_op op_mulA pe_int (pv 1))) pe_int) pe_int) pa_nil)) pe_int))
      (pss_one (ps_ret (pe_lst (pa_cons (pe_op op_mulA (pv 3) (cb_int T.bi (pa_cons (pe_cmpR op_ge (pv 3) (pe_op op_pow pe_int pe_int) (nomark _)) pa_nil))) (pa_cons (pv 4) pa_nil))))))))), ?_⟩
    have big : (2 : Nat) ^ 1048577 = 2 * 2 ^ 1048576 := Nat.pow_succ'
    have sz : ∀ c : Int, c.natAbs < 2 ^ 1048576 → (0 : Int) ≤ (if -1 - c > c then -1 - c else c) ∧ (if -1 - c > c then -1 - c else c).natAbs < 2 ^ 1048577 := fun c hc => by
      generalize (2 : Nat) ^ 1048576 = N at hc big
      rw [big]
      split <;> omega
    have kb : ((k : Nat) : Int).natAbs < 2 ^ 10 := by omega
    have m1 : (7919 * (k : Int)).natAbs < 2 ^ 23 := by omega
    refine ⟨_, rfl, _, rfl, lenL hs ?_⟩
    refine ⟨_, _, rfl, rfl, _, rfl, ?_⟩
    have kk : 0 ≤ 7919 * (k : Int) * k ∧ 7919 * (k : Int) * k ≤ 7919 * 1000 * 1000 := by
      have h0 : (0 : Int) ≤ k := Int.natCast_nonneg _
      have h1 : (k : Int) ≤ 1000 := Int.ofNat_le.mpr hk
      have h2 : (k : Int) * k ≤ 1000 * 1000 := Int.mul_le_mul h1 h1 h0 (by decide)
      have h3 : (0 : Int) ≤ (k : Int) * k := Int.mul_nonneg h0 h0
      rw [Int.mul_assoc]
      omega
    have sm : ∀ c : Int, (c % 2147483629 + 7919 * (k : Int) * k + 31 * (k : Int) + 17).natAbs < 2 ^ 60 := fun c => by
      have h1 := Int.emod_nonneg c (show (2147483629 : Int) ≠ 0 by decide)
      have h2 := Int.emod_lt_of_pos c (show (0 : Int) < 2147483629 by decide)
      generalize 7919 * (k : Int) * k = y at kk
      omega
    have km : ((k : Int) * 7919).natAbs < 2 ^ 23 := by omega
    have fin : ∀ (c : Int), c.natAbs < 2 ^ 1048576 → ∀ p H', H' p = some (HO.lst [.int ((if -1 - c > c then -1 - c else c) * (if (decide ((10 : Int) ^ (18 : Int).toNat ≤ (if -1 - c > c then -1 - c else c))) then 1 else 0)), .int (((if -1 - c > c then -1 - c else c) % 2147483629 + 7919 * (k : Int) * k + 31 * k + 17) * 48271 % 2147483647)]) → PoolAt H' p := fun c hc p H' h =>
      ⟨_, _, h, Int.emod_nonneg _ (by decide), Int.emod_lt_of_pos _ (by decide)⟩
    by_cases hl : k < ns.length
    · rw [decide_eq_true (by rw [List.length_map]; exact Int.ofNat_lt.mpr hl)]
      have hc := bits_lt (hb _ (List.getElem_mem hl))
      refine ⟨_, rfl, _, rfl, ixL (v := .int ns[k]) hs (by simp [hl]) ?_⟩
      have fin := fin _ hc
      have sz := sz _ hc
      refine ⟨_, rfl, intI ?_⟩
      refine ⟨1, rfl, _, rfl, _, _, rfl, rfl, intI (max2 ?_)⟩
      refine ⟨_, rfl, intI ?_⟩
      refine ⟨_, _, rfl, rfl, (show (0 : Int) < 2147483629 by decide), ?_⟩
      refine ⟨_, rfl, mulI (mulx_ok (a := 13) (b := 10) (by decide) kb (by decide)) ?_⟩
      refine ⟨_, rfl, mulI (mulx_ok (a := 23) (b := 10) m1 kb (by decide)) (addI ?_)⟩
      refine ⟨_, rfl, mulI (mulx_ok (a := 5) (b := 10) (by decide) kb (by decide)) (addI ?_)⟩
      refine addI (mulI (mulx_ok (a := 60) (b := 16) (sm _) (by decide) (by decide)) (intI ?_))
      refine ⟨_, _, rfl, rfl, (show (0 : Int) < 2147483647 by decide), ?_⟩
      refine ⟨_, rfl, _, rfl, 10, 18, rfl, rfl, ⟨by decide, by decide, by decide⟩, _, _, rfl, rfl, intB ?_⟩
      refine mulI (mulx_ok (a := 1048577) (b := 1) sz.2 (b01 _) (by decide)) ?_
      refine ⟨_, rfl, by show 2 ≤ sizeLine; decide, fun p hp => ?_⟩
      exact q p _ (sNew hp) hp (fin p _ upd_same)
    · rw [decide_eq_false (by rw [List.length_map]; exact fun h => hl (Int.ofNat_lt.mp h))]
      have hc : (0 : Int).natAbs < 2 ^ 1048576 := Nat.two_pow_pos _
      have fin := fin _ hc
      have sz := sz _ hc
      refine ⟨_, rfl, intI ?_⟩
      refine ⟨1, rfl, _, rfl, _, _, rfl, rfl, intI (max2 ?_)⟩
      refine ⟨_, rfl, intI ?_⟩
      refine ⟨_, _, rfl, rfl, (show (0 : Int) < 2147483629 by decide), ?_⟩
      refine ⟨_, rfl, mulI (mulx_ok (a := 13) (b := 10) (by decide) kb (by decide)) ?_⟩
      refine ⟨_, rfl, mulI (mulx_ok (a := 23) (b := 10) m1 kb (by decide)) (addI ?_)⟩
      refine ⟨_, rfl, mulI (mulx_ok (a := 5) (b := 10) (by decide) kb (by decide)) (addI ?_)⟩
      refine addI (mulI (mulx_ok (a := 60) (b := 16) (sm _) (by decide) (by decide)) (intI ?_))
      refine ⟨_, _, rfl, rfl, (show (0 : Int) < 2147483647 by decide), ?_⟩
      refine ⟨_, rfl, _, rfl, 10, 18, rfl, rfl, ⟨by decide, by decide, by decide⟩, _, _, rfl, rfl, intB ?_⟩
      refine mulI (mulx_ok (a := 1048577) (b := 1) sz.2 (b01 _) (by decide)) ?_
      refine ⟨_, rfl, by show 2 ≤ sizeLine; decide, fun p hp => ?_⟩
      exact q p _ (sNew hp) hp (fin p _ upd_same)
theorem ixP0 {H : Hp} {Q : VK} {l : Addr} {p q : Int} (h : H l = some (.lst [.int p, .int q])) (k : Q (.int p) H) : rIxA K (.ref l) (.int 0) H Q := ixL (i := 0) (.inl (.inl h)) rfl k
theorem ixP1 {H : Hp} {Q : VK} {l : Addr} {p q : Int} (h : H l = some (.lst [.int p, .int q])) (k : Q (.int q) H) : rIxA K (.ref l) (.int 1) H Q := ixL (i := 1) (.inl (.inl h)) rfl k
def spTake : Sp := fun vs H Q _ => ∃ (l : Addr) (b : Int), vs = [.ref l, .int b] ∧ PoolAt H l ∧ 0 < b ∧ b < 1000000 ∧ ∀ r H', But l H H' → PoolAt H' l → 0 ≤ r → r < b → Q (.int r) H'
theorem ok_take (T : Tx P K mg a) : FnOk P w K mg base CX0 1 a.f__law_take a.d__law_take ["pool", "bound"] spTake := by
  refine T._law_take.fn.ok sc__law_take (fun vs H Q E h => ?_) (fun cdv A outer s H vs Q E hr h => ?_)
  · obtain ⟨l, b, rfl, _⟩ := h
    rfl
  · obtain ⟨l, b, rfl, ⟨p, q, hl, q0, q1⟩, hb, hb2, k⟩ := h
    have nd := sc__law_take.nd
    refine ⟨_, (pss_cons (ps_if (pt_cmpR op_gt (pe_ix ix_A (pv 0) pe_int (fun _ _ => rfl)) pe_int (nomark _))
        (pss_cons (ps_set (i := 2) nd rfl (Or.inl rfl) (pe_op op_mod (cb_int T.bi (pa_cons (pe_ix ix_A (pv 0) pe_int (fun _ _ => rfl)) pa_nil)) (pv 1)))
        (pss_cons (ps_asg (pe_op op_fdivW (pe_ix ix_A (pv 0) pe_int (fun _ _ => rfl)) (pv 1)) (pg_sub (pv 0) pe_int set_list))
        (pss_one (ps_ret (pv 2))))) pss_nil)
      (pss_cons (ps_asg (pe_op op_mod (cb_int T.bi (pa_cons (pe_op op_addA (pe_op op_mulA (pe_ix ix_A (pv 0) pe_int (fun _ _ => rfl)) pe_int) pe_int) pa_nil)) pe_int) (pg_sub (pv 0) pe_int set_list))
      (pss_one (ps_ret (pe_op op_mod (cb_int T.bi (pa_cons (pe_op op_fdivW (pe_op op_mod (cb_int T.bi (pa_cons (pe_op op_mulA (pe_ix ix_A (pv 0) pe_int (fun _ _ => rfl)) (pe_ix ix_A (pv 0) pe_int (fun _ _ => rfl))) pa_nil)) pe_int) pe_int) pa_nil)) (pv 1)))))), ?_⟩
    refine ⟨_, rfl, ixP0 hl ?_⟩
    refine ⟨p, 0, rfl, rfl, _, rfl, ?_⟩
    by_cases hp : 0 < p
    · rw [decide_eq_true hp]
      refine ⟨_, rfl, ixP0 hl (intI ?_)⟩
      refine ⟨_, rfl, _, _, rfl, rfl, hb, ?_⟩
      refine ⟨_, rfl, ixP0 hl ?_⟩
      refine ⟨_, rfl, _, _, rfl, rfl, wide_div (b := 20) hb (by omega) (by decide) (by decide), ?_⟩
      refine ⟨_, rfl, l, _, 0, 0, rfl, rfl, hl, rfl, ?_⟩
      exact ⟨_, rfl, k _ _ (But.upd) ⟨_, _, upd_same, q0, q1⟩ (Int.emod_nonneg _ (by omega)) (Int.emod_lt_of_pos _ hb)⟩
    · rw [decide_eq_false hp]
      refine ⟨_, rfl, ixP1 hl ?_⟩
      refine mulI (mulx_ok (a := 31) (b := 16) (by omega) (by decide) (by decide)) (addI (intI ?_))
      refine ⟨_, _, rfl, rfl, (show (0 : Int) < 2147483647 by decide), ?_⟩
      refine ⟨_, rfl, l, _, 1, 1, rfl, rfl, hl, rfl, ?_⟩
      have g0 := Int.emod_nonneg (q * 39373 + 7) (show (2147483647 : Int) ≠ 0 by decide)
      have g1 := Int.emod_lt_of_pos (q * 39373 + 7) (show (0 : Int) < 2147483647 by decide)
      have hl2 : (upd H l (.lst ([V.int p, .int q].set 1 (.int ((q * 39373 + 7) % 2147483647))))) l = some (.lst [.int p, .int ((q * 39373 + 7) % 2147483647)]) := upd_same
      refine ⟨_, rfl, ixP1 hl2 ?_⟩
      refine ⟨_, rfl, ixP1 hl2 ?_⟩
      refine mulI (mulx_ok (a := 31) (b := 31) (by omega) (by omega) (by decide)) (intI ?_)
      refine ⟨_, _, rfl, rfl, (show (0 : Int) < 2147483629 by decide), ?_⟩
      refine ⟨_, _, rfl, rfl, ⟨(show (0 : Int) < 32 by decide), by decide⟩, intI ?_⟩
      refine ⟨_, rfl, _, _, rfl, rfl, hb, ?_⟩
      exact k _ _ (But.upd) ⟨_, _, hl2, g0, g1⟩ (Int.emod_nonneg _ (by omega)) (Int.emod_lt_of_pos _ hb)
def spOne (K : PySem.W.Frag) : Sp := fun vs H Q _ => ∃ (l : Addr) (x : V), vs = [.ref l, x] ∧ PoolAt H l ∧
  ((∃ p xs, x = .ref p ∧ p ≠ l ∧ SqL K H p xs ∧ xs ≠ [] ∧ xs.length < 1000 ∧ ∀ (i : Nat) y H', But l H H' → PoolAt H' l → xs[i]? = some y → Q y H') ∨ (∃ z : Str, x = .str z ∧ 0 < z.length ∧ z.length < 1000 ∧ ∀ c H', But l H H' → PoolAt H' l → c ∈ ls z → Q (.str (tx [c])) H'))
theorem ok_one (T : Tx P K mg a) : FnOk P w K mg base CX0 2 a.f__law_one a.d__law_one ["pool", "things"] (spOne K) := by
  have F1 : FnOk P w K mg base CX0 1 a.f__law_take a.d__law_take ["pool", "bound"] spTake := ok_take T
  refine T._law_one.fn.ok sc__law_one (fun vs H Q E h => ?_) (fun cdv A outer s H vs Q E hr h => ?_)
  · obtain ⟨l, b, rfl, _⟩ := h
    rfl
  · obtain ⟨l, x, rfl, hP, h⟩ := h
    refine ⟨_, (pss_one (ps_ret (pe_ix ix_A (pv 1) (pe_cf T._law_take F1 hr (pa_cons (pv 0) (pa_cons (cb_len T.bi (pa_cons (pv 1) pa_nil)) pa_nil))) (fun _ _ => rfl)))), ?_⟩
    rcases h with ⟨p, xs, rfl, ne, hx, h0, h1, k⟩ | ⟨z, rfl, h0, h1, k⟩
    · refine ⟨_, rfl, _, rfl, _, rfl, lenL hx ?_⟩
      have : 0 < xs.length := List.length_pos_iff.mpr h0
      refine ⟨l, _, rfl, hP, by omega, by omega, fun r H1 b1 hP1 r0 r1 => ?_⟩
      obtain ⟨i, rfl⟩ := Int.eq_ofNat_of_zero_le r0
      have hi : i < xs.length := Int.ofNat_lt.mp r1
      exact ixL (But.sql b1 ne hx) (List.getElem?_eq_getElem hi) (k i _ _ b1 hP1 (List.getElem?_eq_getElem hi))
    · have zl : z.length ≤ sizeLine := by have := PySem.sizeLine_eq; omega
      refine ⟨_, rfl, _, rfl, _, rfl, lenS zl ?_⟩
      refine ⟨l, _, rfl, hP, by omega, by omega, fun r H1 b1 hP1 r0 r1 => ?_⟩
      obtain ⟨i, rfl⟩ := Int.eq_ofNat_of_zero_le r0
      have hi : i < (ls z).length := by rw [ls_len]; exact Int.ofNat_lt.mp r1
      exact ixS zl (List.getElem?_eq_getElem hi) (k _ _ b1 hP1 (List.getElem_mem hi))
end
end Z
set_option maxRecDepth 100000
set_option maxHeartbeats 4000000
namespace Z
open PySem PySem.Spec PyProof.Rows L2
theorem ls_join0 : ∀ ys : List Str, ls (Str.join ("" : Str) ys) = (ys.map ls).flatten
  | [] => rfl
  | [x] => by
    show ls x = _
    simp
  | x :: y :: r => by
    show ls (x ++ ("" : Str) ++ Str.join ("" : Str) (y :: r)) = _
    rw [ls_app, ls_app, ls_join0 (y :: r)]
    have : ls ("" : Str) = [] := by decide +kernel
    rw [this]
    simp
def Short (w : Str) : Prop := 1 ≤ w.length ∧ w.length ≤ 5 ∧ ∀ c ∈ ls w, isLB c = true
theorem Short.word {w : Str} (h : Short w) : Word w := ⟨h.1, by have := h.2.1; omega, fun c hc => isLB_iff.mp (h.2.2 c hc)⟩
theorem sl10 : 1000 ≤ sizeLine := by decide
theorem But.fr {l D : Addr} {H H' : Hp} {o : HO} (hD : H D = none) (b : But l H H') : But l H (L2.upd H' D o) := fun c u hc e => by
  rw [upd_ne (ne_of_none e hD)]
  exact b c u hc e
theorem txj (sep : Str) (ys : List Str) : Txt.join sep ys = Str.join sep ys := PySem.StrLaws.glued_eq_join sep ys
theorem But.non {l D : Addr} {H HB : Hp} (b : But l H HB) (ne : D ≠ l) (n : HB D = none) : H D = none := by
  cases e : H D with
  | none => rfl
  | some o =>
    have := b D o ne e
    rw [n] at this
    cases this
theorem But.fr2 {l D : Addr} {H HB H' : Hp} {o : HO} (b : But l H HB) (ne : D ≠ l) (n : HB D = none) (b2 : But l H H') : But l H (L2.upd H' D o) := But.fr (b.non ne n) b2
theorem ixSm {K : PySem.W.Frag} {H : Hp} {Q : VK} {z : Str} {i : Int} (hz : z.length ≤ sizeLine) (h0 : 0 ≤ i) (h1 : i < z.length) (q : ∀ c, c ∈ ls z → Q (.str (tx [c])) H) : rIxA K (.str z) (.int i) H Q := by
  obtain ⟨j, rfl⟩ := Int.eq_ofNat_of_zero_le h0
  have hj : j < (ls z).length := by rw [ls_len]; exact Int.ofNat_lt.mp h1
  exact ixS hz (List.getElem?_eq_getElem hj) (q _ (List.getElem_mem hj))
def Sgn (y : Str) : Prop := ∃ c, y = tx [c] ∧ isLB c = true
theorem join_sgn : ∀ {ys : List Str}, (∀ y ∈ ys, Sgn y) → (Str.join ("" : Str) ys).length = ys.length ∧ (∀ c ∈ ls (Str.join ("" : Str) ys), isLB c = true) ∧ (ys.map (·.length)).sum = ys.length := by
  intro ys h
  rw [← ls_len, ls_join0]
  induction ys with
  | nil => exact ⟨rfl, fun c hc => by simp at hc, rfl⟩
  | cons y ys ih =>
    obtain ⟨c, rfl, hc⟩ := h y List.mem_cons_self
    obtain ⟨h1, h2, h3⟩ := ih fun z hz => h z (List.mem_cons_of_mem _ hz)
    refine ⟨by simp only [List.map_cons, List.flatten_cons, List.length_append, ls_tx, h1, List.length_cons, List.length_nil]; omega, fun d hd => ?_, by simp only [List.map_cons, List.sum_cons, h3, tx_len, List.length_cons, List.length_nil]; omega⟩
    rw [List.map_cons, List.flatten_cons, ls_tx, List.mem_append] at hd
    rcases hd with hd | hd
    · rw [List.mem_singleton] at hd
      rw [hd]
      exact hc
    · exact h2 d hd
theorem snoc_all {α : Type} {p : α → Prop} {l : List α} {x : α} (h : ∀ y ∈ l, p y) (hx : p x) : ∀ y ∈ l ++ [x], p y := fun y hy => by
  rcases List.mem_append.mp hy with hy | hy
  · exact h y hy
  · rw [List.mem_singleton] at hy
    rw [hy]
    exact hx
theorem mem_sLet {c : Nat} (h : c ∈ ls ("abcdefghijklmnopqrstuvwxyz" : Str)) : isLB c = true := by
  have := mem_let' c
  rw [← this]
  exact decide_eq_true h
theorem len_sLet : ("abcdefghijklmnopqrstuvwxyz" : Str).length = 26 := by decide +kernel
section
variable {P : Program} {w : World} {K : PySem.W.Frag} {mg : Str → Option Value} {base : Heap} {a : Ad}
theorem PoolAt.same {H H' : Hp} {l : Addr} (e : Same H H') (h : PoolAt H l) : PoolAt H' l := by
  obtain ⟨p, q, h1, h2⟩ := h
  exact ⟨p, q, e _ _ h1, h2⟩
theorem PoolAt.ne {H : Hp} {l : Addr} (h : PoolAt H l) {D : Addr} (hD : H D = none) : l ≠ D := by
  obtain ⟨p, q, h1, h2⟩ := h
  exact ne_of_none h1 hD
theorem PoolAt.upd {H : Hp} {l D : Addr} {o : HO} (h : PoolAt H l) (ne : l ≠ D) : PoolAt (L2.upd H D o) l := by
  obtain ⟨p, q, h1, h2⟩ := h
  exact ⟨p, q, by rw [upd_ne ne]; exact h1, h2⟩
theorem ixSi {K : PySem.W.Frag} {H : Hp} {Q : VK} {z : Str} {n c : Nat} {j : Int} (h : z.length ≤ sizeLine) (e : (ls z)[n]? = some c) (hj : j = (n : Int)) (q : Q (.str (tx [c])) H) : rIxA K (.str z) (.int j) H Q := by
  subst hj
  exact ixS h e q
def letN (r m : Int) (j : Nat) : Nat := 97 + ((r + m * (j : Int)) % 26).toNat
def lwd (hd tl : Str) (r m : Int) (j : Nat) : Str := hd ++ tx [letN r m j] ++ tl
theorem lets : ls ("abcdefghijklmnopqrstuvwxyz" : Str) = (List.range 26).map (97 + ·) := by decide +kernel
theorem let_at {r m : Int} {j : Nat} : (ls ("abcdefghijklmnopqrstuvwxyz" : Str))[((r + m * (j : Int)) % 26).toNat]? = some (letN r m j) := by
  have h0 := Int.emod_nonneg (r + m * (j : Int)) (show (26 : Int) ≠ 0 by decide)
  have h1 := Int.emod_lt_of_pos (r + m * (j : Int)) (show (0 : Int) < 26 by decide)
  rw [lets, List.getElem?_map, List.getElem?_range (by omega)]
  rfl
theorem letN_lb {r m : Int} {j : Nat} : isLB (letN r m j) = true := mem_sLet (List.mem_of_getElem? (let_at (r := r) (m := m) (j := j)))
theorem letN_inj {r m : Int} {i j : Nat} (hm : m = 1 ∨ m = 3 ∨ m = 5 ∨ m = 7 ∨ m = 9 ∨ m = 11 ∨ m = 15 ∨ m = 17 ∨ m = 19 ∨ m = 21 ∨ m = 23 ∨ m = 25) (hi : i < 26) (hj : j < 26) (h : letN r m i = letN r m j) : i = j := by
  unfold letN at h
  have a0 := Int.emod_nonneg (r + m * (i : Int)) (show (26 : Int) ≠ 0 by decide)
  have b0 := Int.emod_nonneg (r + m * (j : Int)) (show (26 : Int) ≠ 0 by decide)
  rcases hm with rfl | rfl | rfl | rfl | rfl | rfl | rfl | rfl | rfl | rfl | rfl | rfl <;> omega
theorem lwd_inj {hd tl : Str} {r m : Int} {i j : Nat} (hm : m = 1 ∨ m = 3 ∨ m = 5 ∨ m = 7 ∨ m = 9 ∨ m = 11 ∨ m = 15 ∨ m = 17 ∨ m = 19 ∨ m = 21 ∨ m = 23 ∨ m = 25) (hi : i < 26) (hj : j < 26) (h : lwd hd tl r m i = lwd hd tl r m j) : i = j := by
  have e := congrArg ls h
  unfold lwd at e
  rw [ls_app, ls_app, ls_app, ls_app, ls_tx, ls_tx] at e
  have e := List.append_cancel_left (List.append_cancel_right e)
  exact letN_inj hm hi hj (List.cons.inj e).1
def lwds (hd tl : Str) (r m : Int) (n : Nat) : List Str := (List.range n).map (lwd hd tl r m)
theorem lwds_nodup {hd tl : Str} {r m : Int} {n : Nat} (hm : m = 1 ∨ m = 3 ∨ m = 5 ∨ m = 7 ∨ m = 9 ∨ m = 11 ∨ m = 15 ∨ m = 17 ∨ m = 19 ∨ m = 21 ∨ m = 23 ∨ m = 25) (hn : n ≤ 26) : (lwds hd tl r m n).Nodup := by
  unfold lwds
  rw [List.Nodup, List.pairwise_map]
  refine List.Pairwise.imp_of_mem ?_ (List.nodup_range (n := n))
  intro i j hi hj ne e
  have := List.mem_range.mp hi
  have := List.mem_range.mp hj
  exact ne (lwd_inj hm (by omega) (by omega) e)
theorem lwds_len {hd tl : Str} {r m : Int} {n : Nat} : (lwds hd tl r m n).length = n := by
  unfold lwds
  rw [List.length_map, List.length_range]
theorem lwds_succ {hd tl : Str} {r m : Int} {n : Nat} : lwds hd tl r m (n + 1) = lwds hd tl r m n ++ [lwd hd tl r m n] := by
  unfold lwds
  rw [List.range_succ, List.map_append]
  rfl
theorem lwd_short {hd tl : Str} {r m : Int} {j : Nat} (h1 : hd.length ≤ 2) (h2 : tl.length ≤ 2) (m1 : ∀ c ∈ ls hd, isLB c = true) (m2 : ∀ c ∈ ls tl, isLB c = true) : Short (lwd hd tl r m j) := by
  unfold lwd
  refine ⟨?_, ?_, ?_⟩
  · rw [len_app, len_app, tx_len]
    show 1 ≤ _ + 1 + _
    omega
  · rw [len_app, len_app, tx_len]
    show _ + 1 + _ ≤ 5
    omega
  · intro d hd
    rw [ls_app, ls_app, ls_tx, List.mem_append, List.mem_append, List.mem_singleton] at hd
    rcases hd with (hd | rfl) | hd
    · exact m1 d hd
    · exact letN_lb
    · exact m2 d hd
theorem lwds_short {hd tl : Str} {r m : Int} {n : Nat} (h1 : hd.length ≤ 2) (h2 : tl.length ≤ 2) (m1 : ∀ c ∈ ls hd, isLB c = true) (m2 : ∀ c ∈ ls tl, isLB c = true) : ∀ y ∈ lwds hd tl r m n, Short y := by
  intro y hy
  obtain ⟨j, _, rfl⟩ := List.mem_map.mp hy
  exact lwd_short h1 h2 m1 m2
def spWordsN (K : PySem.W.Frag) : Sp := fun vs H Q _ => ∃ (l : Addr) (n : Nat), vs = [.ref l, .int n] ∧ n ≤ 26 ∧ PoolAt H l ∧
  ∀ (p : Addr) (ws : List Str) (H' : Hp), But l H H' → PoolAt H' l → p ≠ l → H p = none → H' p = some (.lst (ws.map V.str)) → ws.length = n → ws.Nodup → (∀ y ∈ ws, Short y) → Q (.ref p) H'
theorem ok_wordsN (T : Tx P K mg a) : FnOk P w K mg base CX0 3 a.f__law_words a.d__law_words ["pool", "bound"] (spWordsN K) := by
  have F1 : FnOk P w K mg base CX0 1 a.f__law_take a.d__law_take ["pool", "bound"] spTake := ok_take T
  have F2 : FnOk P w K mg base CX0 2 a.f__law_one a.d__law_one ["pool", "things"] (spOne K) := ok_one T
  refine T._law_words.fn.ok sc__law_words (fun vs H Q E h => ?_) (fun cdv A outer s H vs Q E hr h => ?_)
  · obtain ⟨l, n, rfl, _⟩ := h
    rfl
  · obtain ⟨l, n, rfl, hn, hP, k⟩ := h
    have nd := sc__law_words.nd
    have hr1 : Room 1 _ := hr.mono (by decide)
    refine ⟨_, (pss_cons (ps_set (i := 2) nd rfl (Or.inr rfl) pe_str)
      (pss_cons (ps_asg (pe_tup (pa_cons (pe_cf T._law_take F1 hr1 (pa_cons (pv 0) (pa_cons pe_int pa_nil))) (pa_cons (pe_cf T._law_one F2 hr (pa_cons (pv 0) (pa_cons (pe_lst (pa_cons pe_int (pa_cons pe_int (pa_cons pe_int (pa_cons pe_int (pa_cons pe_int (pa_cons pe_int (pa_cons pe_int (pa_cons pe_int (pa_cons pe_int (pa_cons pe_int (pa_cons pe_int (pa_cons pe_int pa_nil))))))))))))) pa_nil))) pa_nil))) (pg_tup rfl (pgs_cons (pg_name (i := 3) nd rfl (Or.inr rfl)) (pgs_cons (pg_name (i := 4) nd rfl (Or.inr rfl)) pgs_nil))))
      (pss_cons (ps_set (i := 5) nd rfl (Or.inr rfl) (pe_join pe_str (pe_lc (own := [("turn", 7)]) (by rfl) nd (pi_range1 rfl T.bi.range (pa_cons (pe_cf T._law_take F1 hr1 (pa_cons (pv 0) (pa_cons pe_int pa_nil))) pa_nil)) (blkOk_by (own := [("turn", 7)]) (N := ["pool", "bound", "letters", "first", "stride", "head", "tail", "turn", "spot"]) (sc := defScope s__law_words) (by decide +kernel)) (fun _ _ _ _ _ => (pg_name (i := 7) nd rfl (Or.inl rfl))) (fun _ _ _ _ _ => pts_nil) (fun _ _ _ _ _ => (pe_cf T._law_one F2 hr (pa_cons (pv 0) (pa_cons (pv 2) pa_nil)))))))
      (pss_cons (ps_set (i := 6) nd rfl (Or.inr rfl) (pe_join pe_str (pe_lc (own := [("turn", 7)]) (by rfl) nd (pi_range1 rfl T.bi.range (pa_cons (pe_cf T._law_take F1 hr1 (pa_cons (pv 0) (pa_cons pe_int pa_nil))) pa_nil)) (blkOk_by (own := [("turn", 7)]) (N := ["pool", "bound", "letters", "first", "stride", "head", "tail", "turn", "spot"]) (sc := defScope s__law_words) (by decide +kernel)) (fun _ _ _ _ _ => (pg_name (i := 7) nd rfl (Or.inl rfl))) (fun _ _ _ _ _ => pts_nil) (fun _ _ _ _ _ => (pe_cf T._law_one F2 hr (pa_cons (pv 0) (pa_cons (pv 2) pa_nil)))))))
      (pss_one (ps_ret (pe_lc (own := [("spot", 8)]) (by rfl) nd (pi_range1 rfl T.bi.range (pa_cons (pv 1) pa_nil)) (blkOk_by (own := [("spot", 8)]) (N := ["pool", "bound", "letters", "first", "stride", "head", "tail", "turn", "spot"]) (sc := defScope s__law_words) (by decide +kernel)) (fun _ _ _ _ _ => (pg_name (i := 8) nd rfl (Or.inl rfl))) (fun _ _ _ _ _ => pts_nil) (fun _ _ _ _ _ => (pe_op (op_addA (K := K)) (pe_op (op_addA (K := K)) (pv 5) (pe_ix (ix_A (K := K)) (pv 2) (pe_op op_mod (cb_int T.bi (pa_cons (pe_op (op_addA (K := K)) (pv 3) (pe_op op_mulA (pv 4) (pv 8))) pa_nil)) pe_int) (fun _ _ => rfl))) (pv 6)))))))))), ?_⟩
    refine ⟨_, rfl, l, 26, rfl, hP, by decide, by decide, fun r0 H1 b1 P1 r00 r01 => ?_⟩
    refine ⟨_, rfl, by show 12 ≤ sizeLine; decide, fun p1 n1 => ?_⟩
    have ne1 := P1.ne n1
    refine ⟨l, _, rfl, P1.upd ne1, .inl ⟨p1, _, rfl, ne1.symm, .inl (.inl upd_same), by simp, by show 12 < 1000; decide, fun i y H2 b2 P2 hy => ?_⟩⟩
    obtain ⟨m, rfl, hm⟩ : ∃ m : Int, y = .int m ∧ (m = 1 ∨ m = 3 ∨ m = 5 ∨ m = 7 ∨ m = 9 ∨ m = 11 ∨ m = 15 ∨ m = 17 ∨ m = 19 ∨ m = 21 ∨ m = 23 ∨ m = 25) := by
      have := List.mem_of_getElem? hy
      simp only [List.mem_cons, List.not_mem_nil, or_false] at this
      rcases this with rfl | rfl | rfl | rfl | rfl | rfl | rfl | rfl | rfl | rfl | rfl | rfl <;> exact ⟨_, rfl, by decide⟩
    have m0 : 0 ≤ m ∧ m ≤ 25 := by omega
    refine ⟨by show 2 ≤ sizeLine; decide, fun pt nt => ?_⟩
    refine ⟨pt, _, rfl, .inl (.inl upd_same), rfl, _, _, rfl, _, _, rfl, rfl, ?_⟩
    have bX : But l H (upd H2 pt (.tup [V.int r0, .int m])) := (b1.trans ((But.same (sNew n1) l).trans b2)).trans (But.same (sNew nt) l)
    have PX : PoolAt (upd H2 pt (.tup [V.int r0, .int m])) l := P2.upd (P2.ne nt)
    refine ⟨⟨_, rfl⟩, _, rfl, l, 3, rfl, PX, by decide, by decide, fun rA HA bA PA_ rA0 rA1 => ⟨rA, rfl, by omega, by omega, fun DA nA => ?_⟩⟩
    refine lc_it (walk_range (lo := 0) (n := rA.toNat)) (fun i H' => PoolAt H' l ∧ But l HA H' ∧ ∃ ys : List Str, H' DA = some (.lst (ys.map V.str)) ∧ ys.length = i ∧ ∀ y ∈ ys, Sgn y) ⟨PA_.upd (PA_.ne nA), But.fr nA (But.refl _ _), [], upd_same, rfl, fun y hy => nomatch hy⟩ (fun _ _ _ _ => trivial) ?_ ?_
    · rintro i x H2 H2' hi ⟨Pz, bz, ys, hA, ly, ay⟩ ⟨rfl, rfl⟩
      refine ⟨rfl, _, rfl, _, rfl, l, _, rfl, Pz, .inr ⟨_, rfl, by rw [len_sLet]; decide, by rw [len_sLet]; decide, fun c H3 b3 P3 hc => ?_⟩⟩
      have nDl : DA ≠ l := (PA_.ne nA).symm
      refine ⟨_, b3 _ _ nDl hA, by rw [List.length_map, ly]; have := sl10; omega, P3.upd nDl.symm, But.fr nA (bz.trans b3), ys ++ [tx [c]], by rw [upd_same, List.map_append]; rfl, by rw [List.length_append, ly]; rfl, snoc_all ay ⟨c, rfl, mem_sLet hc⟩⟩
    rintro HB1 ⟨PB1, bB, ys1, hA, ly, ay⟩
    obtain ⟨j1, j2, j3⟩ := join_sgn ay
    refine ⟨_, DA, ys1, rfl, rfl, .inl (.inl (.inl hA)), by rw [j3, show ("" : Str).length = 0 by decide +kernel]; omega, ?_⟩
    have bY1 := (bX.trans bA).trans bB
    have jl1 : (Txt.join ("" : Str) ys1).length ≤ 2 := by
      rw [txj, j1]
      omega
    have jm1 : ∀ c ∈ ls (Txt.join ("" : Str) ys1), isLB c = true := by
      rw [txj]
      exact j2
    clear bX bA bB PA_ ly hA j1 j2 j3 ay
    refine ⟨⟨_, rfl⟩, _, rfl, l, 3, rfl, PB1, by decide, by decide, fun rA HA bA PA_ rA0 rA1 => ⟨rA, rfl, by omega, by omega, fun DA nA => ?_⟩⟩
    refine lc_it (walk_range (lo := 0) (n := rA.toNat)) (fun i H' => PoolAt H' l ∧ But l HA H' ∧ ∃ ys : List Str, H' DA = some (.lst (ys.map V.str)) ∧ ys.length = i ∧ ∀ y ∈ ys, Sgn y) ⟨PA_.upd (PA_.ne nA), But.fr nA (But.refl _ _), [], upd_same, rfl, fun y hy => nomatch hy⟩ (fun _ _ _ _ => trivial) ?_ ?_
    · rintro i x H2 H2' hi ⟨Pz, bz, ys, hA, ly, ay⟩ ⟨rfl, rfl⟩
      refine ⟨rfl, _, rfl, _, rfl, l, _, rfl, Pz, .inr ⟨_, rfl, by rw [len_sLet]; decide, by rw [len_sLet]; decide, fun c H3 b3 P3 hc => ?_⟩⟩
      have nDl : DA ≠ l := (PA_.ne nA).symm
      refine ⟨_, b3 _ _ nDl hA, by rw [List.length_map, ly]; have := sl10; omega, P3.upd nDl.symm, But.fr nA (bz.trans b3), ys ++ [tx [c]], by rw [upd_same, List.map_append]; rfl, by rw [List.length_append, ly]; rfl, snoc_all ay ⟨c, rfl, mem_sLet hc⟩⟩
    rintro HB2 ⟨PB2, bB, ys2, hA, ly, ay⟩
    obtain ⟨j1, j2, j3⟩ := join_sgn ay
    refine ⟨_, DA, ys2, rfl, rfl, .inl (.inl (.inl hA)), by rw [j3, show ("" : Str).length = 0 by decide +kernel]; omega, ?_⟩
    have bY2 := (bY1.trans bA).trans bB
    have jl2 : (Txt.join ("" : Str) ys2).length ≤ 2 := by
      rw [txj, j1]
      omega
    have jm2 : ∀ c ∈ ls (Txt.join ("" : Str) ys2), isLB c = true := by
      rw [txj]
      exact j2
    clear bY1 bA bB PA_ ly hA j1 j2 j3 ay
    refine ⟨_, rfl, (n : Int), rfl, by omega, by omega, fun D nD => ?_⟩
    have nDl := PB2.ne nD
    have lh := lwds_short (hd := Txt.join ("" : Str) ys1) (tl := Txt.join ("" : Str) ys2) (r := r0) (m := m) (n := n) jl1 jl2 jm1 jm2
    have ln := lwds_nodup (hd := Txt.join ("" : Str) ys1) (tl := Txt.join ("" : Str) ys2) (r := r0) (m := m) (n := n) hm hn
    refine lc_it (walk_range (lo := 0) (n := (n : Int).toNat)) (fun i H' => PoolAt H' l ∧ But l H H' ∧ H' D = some (.lst ((lwds (Txt.join ("" : Str) ys1) (Txt.join ("" : Str) ys2) r0 m i).map V.str))) ⟨PB2.upd nDl, bY2.trans (But.same (sNew nD) l), upd_same⟩ (fun _ _ _ _ => trivial) ?_ ?_
    · rintro i x H2 H2' hi ⟨Pz, bz, hA⟩ ⟨rfl, rfl⟩
      have hi' : i < n := hi
      have S26 := len_sLet
      have sl := sl10
      refine ⟨rfl, _, rfl, _, rfl, _, rfl, _, rfl, _, rfl, mulI (mulx_ok (a := 10) (b := 10) (by omega) (by omega) (by decide)) (addI (intI ?_))⟩
      refine ⟨_, _, rfl, rfl, (show (0 : Int) < 26 by decide), ?_⟩
      have n0 := Int.emod_nonneg (r0 + m * (i : Int)) (show (26 : Int) ≠ 0 by decide)
      refine ixSi (n := ((r0 + m * (i : Int)) % 26).toNat) (by rw [S26]; decide) let_at (by rw [Int.zero_add]; omega) ?_
      refine addS (by rw [tx_len]; show _ + 1 ≤ _; omega) ⟨_, rfl, addS (by rw [len_app, tx_len]; show _ + 1 + _ ≤ _; omega) ?_⟩
      have wsl : (lwds (Txt.join ("" : Str) ys1) (Txt.join ("" : Str) ys2) r0 m i).length < sizeLine := by rw [lwds_len]; omega
      refine ⟨_, hA, by rw [List.length_map]; exact wsl, Pz.upd nDl, But.fr2 bY2 nDl.symm nD bz, ?_⟩
      rw [upd_same, lwds_succ, List.map_append]
      rfl
    · rintro H3 ⟨P3, b3, hA⟩
      exact k D _ H3 b3 P3 nDl.symm (bY2.non nDl.symm nD) hA lwds_len ln lh
end
end Z
set_option maxRecDepth 100000
set_option maxHeartbeats 4000000
namespace Z
open PySem PySem.Spec PyProof.Rows L2
theorem But.tr {K : PySem.W.Frag} {l : Addr} {H H' : Hp} (b : But l H H') (h : PoolAt H l) {t : Tr} {v : V} (d : Dp K H v t.d) : Dp K H' v t.d := by
  obtain ⟨p, q, h1, _⟩ := h
  exact tr_tk (b.tk h1) t d
theorem But.trs {K : PySem.W.Frag} {l : Addr} {H H' : Hp} (b : But l H H') (h : PoolAt H l) {ts : List Tr} {vs : List V} (d : DpAll K H vs (ts.map Tr.d)) : DpAll K H' vs (ts.map Tr.d) := by
  obtain ⟨p, q, h1, _⟩ := h
  exact dpAll_tk (b.tk h1) d
section
variable {P : Program} {w : World} {K : PySem.W.Frag} {mg : Str → Option Value} {base : Heap} {a : Ad}
def Tr.Of (ws : List Str) (ds : List Int) (t : Tr) : Prop := (∀ y ∈ t.ws, y ∈ ws) ∧ ∀ y ∈ t.ns, y ∈ ds
def spTreeG (K : PySem.W.Frag) (n : Nat) : Sp := fun vs H Q _ => ∃ (l pw pd : Addr) (ws : List Str) (ds : List Int), vs = [.ref l, .ref pw, .ref pd, .int (n : Nat)] ∧ PoolAt H l ∧ pw ≠ l ∧ pd ≠ l ∧ H pw = some (.lst (ws.map V.str)) ∧ H pd = some (.lst (ds.map V.int)) ∧
  ws ≠ [] ∧ ws.length < 1000 ∧ ds.length < 1000 ∧ (∀ y ∈ ws, Word y) ∧ (∀ y ∈ ds, 0 ≤ y ∧ y ≤ 9) ∧ 1 ≤ n ∧
  ∀ (v : V) (t : Tr) H', But l H H' → PoolAt H' l → Dp K H' v t.d → t.Ok → t.deep ≤ n → t.Of ws ds → Q v H'
theorem map_at {α : Type} {f : α → V} {xs : List α} {i : Nat} {y : V} (h : (xs.map f)[i]? = some y) : ∃ x, xs[i]? = some x ∧ y = f x := by
  rw [List.getElem?_map] at h
  cases e : xs[i]? with
  | none => rw [e] at h; cases h
  | some x => rw [e] at h; cases h; exact ⟨x, rfl, rfl⟩
theorem cho_of {ws : List Str} {ds : List Int} {a b c e : Tr} (h1 : a.Of ws ds) (h2 : b.Of ws ds) (h3 : c.Of ws ds) (h4 : e.Of ws ds) : (Tr.cho a b c e).Of ws ds := by
  refine ⟨fun y hy => ?_, fun y hy => ?_⟩
  · have hy : y ∈ a.ws ++ b.ws ++ c.ws ++ e.ws := hy
    rw [List.mem_append, List.mem_append, List.mem_append] at hy
    rcases hy with ((h | h) | h) | h
    · exact h1.1 y h
    · exact h2.1 y h
    · exact h3.1 y h
    · exact h4.1 y h
  · have hy : y ∈ a.ns ++ b.ns ++ c.ns ++ e.ns := hy
    rw [List.mem_append, List.mem_append, List.mem_append] at hy
    rcases hy with ((h | h) | h) | h
    · exact h1.2 y h
    · exact h2.2 y h
    · exact h3.2 y h
    · exact h4.2 y h
theorem ok_treeG (T : Tx P K mg a) : ∀ n : Nat, FnOk P w K mg base CX0 (n + 3) a.f__law_tree a.d__law_tree ["pool", "words", "digits", "deep"] (spTreeG K n)
  | 0 => fnNo fun vs H Q E ⟨_, _, _, _, _, _, _, _, _, _, _, _, _, _, _, _, h, _⟩ => by omega
  | n + 1 => by
    have IH : FnOk P w K mg base CX0 (n + 3) a.f__law_tree a.d__law_tree ["pool", "words", "digits", "deep"] (spTreeG K n) := ok_treeG T n
    have F1 : FnOk P w K mg base CX0 1 a.f__law_take a.d__law_take ["pool", "bound"] spTake := ok_take T
    have F2 : FnOk P w K mg base CX0 2 a.f__law_one a.d__law_one ["pool", "things"] (spOne K) := ok_one T
    refine T._law_tree.fn.ok sc__law_tree (fun vs H Q E h => ?_) (fun cdv A outer s H vs Q E hr h => ?_)
    · obtain ⟨l, pw, pd, ws, ds, rfl, _⟩ := h
      rfl
    · obtain ⟨l, pw, pd, ws, ds, rfl, hP, nw, ndl, hw, hd, w0, wl, dl, wW, dD, hn, k⟩ := h
      have nd := sc__law_tree.nd
      have hr1 : Room 1 _ := hr.mono (by omega)
      have hr2 : Room 2 _ := hr.mono (by omega)
      refine ⟨_, (pss_cons (ps_if (PW.pt (pw_and (pt_cmpR op_gt (pv 3) pe_int (nomark _)) (pw_and1 (pt_cmpR (op_eqX hr) (pe_cf T._law_take F1 hr1 (pa_cons (pv 0) (pa_cons pe_int pa_nil))) pe_int (nomark _)))))
          (pss_one (ps_ret (cb_tuple T.bi (pa_cons (pe_lc (own := [("part", 4)]) (by rfl) nd (pi_range1 rfl T.bi.range (pa_cons pe_int pa_nil)) (blkOk_by (own := [("part", 4)]) (N := ["pool", "words", "digits", "deep", "part"]) (sc := defScope s__law_tree) (by decide +kernel)) (fun _ _ _ _ _ => (pg_name (i := 4) nd rfl (Or.inl rfl))) (fun _ _ _ _ _ => pts_nil) (fun _ _ _ _ _ => (pe_cf T._law_tree IH hr (pa_cons (pv 0) (pa_cons (pv 1) (pa_cons (pv 2) (pa_cons (pe_op op_sub (pv 3) pe_int) pa_nil))))))) pa_nil)))) pss_nil)
        (pss_cons (ps_if (PW.pt (pw_and (pt_cmpR (op_neX hr) (pv 2) (pe_lst pa_nil) (nomark _)) (pw_and1 (pt_cmpR (op_eqX hr) (pe_cf T._law_take F1 hr1 (pa_cons (pv 0) (pa_cons pe_int pa_nil))) pe_int (nomark _)))))
          (pss_one (ps_ret (pe_cf T._law_one F2 hr2 (pa_cons (pv 0) (pa_cons (pv 2) pa_nil))))) pss_nil)
        (pss_one (ps_ret (pe_cf T._law_one F2 hr2 (pa_cons (pv 0) (pa_cons (pv 1) pa_nil))))))), ?_⟩
      refine ⟨_, rfl, _, _, rfl, rfl, _, rfl, ?_⟩
      have rest : ∀ {H1 : Hp}, But l H H1 → PoolAt H1 l → (tSeq (tIfS (tAnd (tTest (tOp (rNeX K) (tVar 2) (tLst tNil))) (tTest (tOp (rEqX K) (tCall spTake [] E0 (tCons (tVar 0) (tCons (tC (.int 3)) tNil))) (tC (.int 0))))) (tRet (tCall (spOne K) [] E0 (tCons (tVar 0) (tCons (tVar 2) tNil)))) tNext) (tRet (tCall (spOne K) [] E0 (tCons (tVar 0) (tCons (tVar 1) tNil)))))
          { nx := fun _ H' => Q .non H', rt := Q } [some (.ref l), some (.ref pw), some (.ref pd), some (.int ((n + 1 : Nat) : Int)), none] H1 := by
        intro H1 b1 P1
        have hd1 := b1 _ _ ndl hd
        have hw1 := b1 _ _ nw hw
        have leafW : ∀ {H2 : Hp}, But l H H2 → PoolAt H2 l → spOne K [.ref l, .ref pw] H2 Q L2.E0 := fun {H2} b2 P2 => by
          refine ⟨l, _, rfl, P2, .inl ⟨pw, _, rfl, nw, .inl (.inl (b2 _ _ nw hw)), fun e => w0 (List.map_eq_nil_iff.mp e), by rw [List.length_map]; exact wl, fun i y HZ bZ PZ hy => ?_⟩⟩
          obtain ⟨z, hz, rfl⟩ := map_at hy
          have hm := List.mem_of_getElem? hz
          exact k _ (.var z) _ (b2.trans bZ) PZ (.str z) (wW z hm) (show 1 ≤ n + 1 by omega) ⟨fun y hy => by rw [List.mem_singleton.mp hy]; exact hm, fun y hy => nomatch hy⟩
        refine ⟨_, rfl, Nat.zero_le _, fun pe ne => ?_⟩
        refine neL0 (.inl (.inl (by rw [upd_ne (ne_of_none hd1 ne)]; exact hd1))) upd_same ?_
        have b2 : But l H (upd H1 pe (.lst [])) := b1.trans (But.same (sNew ne) l)
        have P2 : PoolAt (upd H1 pe (.lst [])) l := P1.upd (P1.ne ne)
        refine ⟨_, rfl, ?_⟩
        cases hds : ds with
        | nil => exact ⟨_, rfl, _, rfl, leafW b2 P2⟩
        | cons d0 dr =>
          have ne0 : ds ≠ [] := by rw [hds]; exact List.cons_ne_nil _ _
          refine ⟨_, rfl, l, 3, rfl, P2, by decide, by decide, fun r HY bY PY r0 r1 => ?_⟩
          have bA := b2.trans bY
          refine eqI ?_
          refine ⟨_, rfl, ?_⟩
          by_cases hz : r = 0
          · rw [decide_eq_true hz]
            refine ⟨_, rfl, _, rfl, l, _, rfl, PY, .inl ⟨pd, _, rfl, ndl, .inl (.inl (bA _ _ ndl hd)), fun e => ne0 (List.map_eq_nil_iff.mp e), by rw [List.length_map]; exact dl, fun i y HZ bZ PZ hy => ?_⟩⟩
            obtain ⟨m, hm, rfl⟩ := map_at hy
            have hm := List.mem_of_getElem? hm
            exact k _ (.con m) _ (bA.trans bZ) PZ (.int m) (dD m hm) (show 1 ≤ n + 1 by omega) ⟨(fun y hy => nomatch hy), fun y hy => by rw [List.mem_singleton.mp hy]; exact hm⟩
          · rw [decide_eq_false hz]
            exact ⟨_, rfl, _, rfl, leafW bA PY⟩
      by_cases hn1 : (1 : Int) < ((n + 1 : Nat) : Int)
      · rw [decide_eq_true hn1]
        refine ⟨_, rfl, l, 3, rfl, hP, by decide, by decide, fun r H1 b1 P1 r0 r1 => ?_⟩
        refine eqI ?_
        refine ⟨_, rfl, ?_⟩
        by_cases hz : r = 0
        · rw [decide_eq_true hz]
          refine ⟨4, rfl, by decide, by decide, fun D nD => ?_⟩
          have nDl := P1.ne nD
          refine lc_it (walk_range (lo := 0) (n := (4 : Int).toNat)) (fun i H' => PoolAt H' l ∧ But l H H' ∧ ∃ (us : List V) (ts : List Tr), H' D = some (.lst us) ∧ DpAll K H' us (ts.map Tr.d) ∧ ts.length = i ∧ ∀ t ∈ ts, t.Ok ∧ t.deep ≤ n ∧ t.Of ws ds)
            ⟨P1.upd nDl, But.fr2 b1 nDl.symm nD b1, [], [], upd_same, .nil, rfl, fun y hy => nomatch hy⟩ (fun _ _ _ _ => trivial) ?_ ?_
          · rintro i x H2 H2' hi ⟨Pz, bz, us, ts, hA, hD, lt, at_⟩ ⟨rfl, rfl⟩
            have hi' : i < 4 := hi
            refine ⟨rfl, _, rfl, _, rfl, _, rfl, _, rfl, _, _, rfl, rfl, ?_⟩
            refine ⟨l, pw, pd, ws, ds, ?_, Pz, nw, ndl, bz _ _ nw hw, bz _ _ ndl hd, w0, wl, dl, wW, dD, by omega, fun v t H3 b3 P3 hv ok hdp of => ?_⟩
            · show [V.ref l, .ref pw, .ref pd, .int (((n + 1 : Nat) : Int) - 1)] = _
              rw [show ((n + 1 : Nat) : Int) - 1 = (n : Int) by omega]
            · have hA3 := b3 _ _ nDl.symm hA
              have ul : us.length < sizeLine := by
                have := DpAll.length hD
                rw [List.length_map] at this
                have := sl10
                omega
              have tkk : TK H3 (upd H3 D (.lst (us ++ [v]))) := TK.lst hA3
              refine ⟨us, hA3, ul, P3.upd nDl, But.fr2 b1 nDl.symm nD (bz.trans b3), us ++ [v], ts ++ [t], upd_same, ?_, by rw [List.length_append, lt]; rfl, snoc_all at_ ⟨ok, hdp, of⟩⟩
              exact dpAll_tk (ts := ts ++ [t]) tkk (by rw [List.map_append]; exact DpAll.app (b3.trs Pz hD) (.cons hv .nil))
          · rintro H2 ⟨P2, b2, us, ts, hA, hD, lt, at_⟩
            refine tupL (.inl (.inl hA)) fun p H3 n3 s3' hp => ?_
            match ts, lt with
            | [t1, t2, t3, t4], _ =>
              have a1 := at_ t1 (by simp)
              have a2 := at_ t2 (by simp)
              have a3 := at_ t3 (by simp)
              have a4 := at_ t4 (by simp)
              have hD' : DpAll K H3 us [t1.d, t2.d, t3.d, t4.d] := dpAll_same s3' hD
              refine k _ (.cho t1 t2 t3 t4) _ (b2.trans (But.same s3' l)) (P2.same s3') (.tup (.inl (.inl hp)) hD') ⟨a1.1, a2.1, a3.1, a4.1⟩ ?_ (cho_of a1.2.2 a2.2.2 a3.2.2 a4.2.2)
              show 1 + max (max t1.deep t2.deep) (max t3.deep t4.deep) ≤ n + 1
              omega
        · rw [decide_eq_false hz]
          exact rest b1 P1
      · rw [decide_eq_false hn1]
        exact rest (But.refl _ _) hP
end
end Z
set_option maxRecDepth 100000
set_option maxHeartbeats 4000000
namespace Z
open PySem PySem.Spec PyProof.Rows L2
theorem lk1 {m f : Str} {v : V} (h : (m == f) = false := by decide) : List.lookup m [(f, v)] = none := by simp [List.lookup, h]
theorem join_text2 (a b c e : Tr) : ("(" : Str) ++ a.text ++ "=" ++ b.text ++ "?" ++ c.text ++ ":" ++ e.text ++ ")" = (Tr.cho a b c e).text := by
  rw [← join_text]
  apply str_ext
  simp only [ls_app]
  have h0 : ls Str.empty = [] := rfl
  rw [h0, List.nil_append]
section
variable {P : Program} {w : World} {K : PySem.W.Frag} {mg : Str → Option Value} {base : Heap} {a : Ad}
theorem ok_ltext (T : Tx P K mg a) : ∀ n : Nat, FnOk P w K mg base CX0 (n + 1) a.f__law_tree_text a.d__law_tree_text ["tree"] (spText K n)
  | 0 => fnNo fun vs H Q E ⟨v, t, _, _, _, h, _⟩ => by
    have := deep_pos t
    omega
  | n + 1 => by
    have IH : FnOk P w K mg base CX0 (n + 1) a.f__law_tree_text a.d__law_tree_text ["tree"] (spText K n) := ok_ltext T n
    refine T._law_tree_text.fn.ok sc__law_tree_text (fun vs H Q E h => ?_) (fun cdv A outer s H vs Q E hr h => ?_)
    · obtain ⟨v, t, rfl, _⟩ := h
      rfl
    · obtain ⟨v, t, rfl, hv, ok, hd, hn, q⟩ := h
      have nd := sc__law_tree_text.nd
      refine ⟨_, (pss_cons (ps_if (pt_val (cb_isi T.bi (pa_cons (pv 0) (pa_cons (gl_ty rfl T.bi.tuple PyProof.Rows.boot_tuple) pa_nil))))
        (pss_cons (ps_asg (pe_lc (own := [("part", 5)]) (by rfl) nd (pi_tup (pv 0)) (blkOk_by (own := [("part", 5)]) (N := ["tree", "near", "far", "yes", "no", "part"]) (sc := defScope s__law_tree_text) (by decide +kernel)) (fun _ _ _ _ _ => (pg_name (i := 5) nd rfl (Or.inl rfl))) (fun _ _ _ _ _ => pts_nil) (fun _ _ _ _ _ => (pe_cf T._law_tree_text IH hr (pa_cons (pv 5) pa_nil)))) (pg_unl rfl (pgs_cons (pg_name (i := 1) nd rfl (Or.inl rfl)) (pgs_cons (pg_name (i := 2) nd rfl (Or.inl rfl)) (pgs_cons (pg_name (i := 3) nd rfl (Or.inl rfl)) (pgs_cons (pg_name (i := 4) nd rfl (Or.inl rfl)) pgs_nil))))))
          (pss_one (ps_ret (pe_op op_addA (pe_op op_addA (pe_op op_addA (pe_op op_addA (pe_op op_addA (pe_op op_addA (pe_op op_addA (pe_op op_addA pe_str (pv 1)) pe_str) (pv 2)) pe_str) (pv 3)) pe_str) (pv 4)) pe_str)))) pss_nil)
        (pss_one (ps_ret (cb_str T.bi (pa_cons (pv 0) pa_nil))))), ?_⟩
      refine ⟨_, rfl, isiTr hv ?_⟩
      refine ⟨_, rfl, ?_⟩
      cases t with
      | con m =>
        obtain rfl := tr_con hv
        exact ⟨_, rfl, strI (int_small ok) (q _ fun _ _ e => e)⟩
      | var x =>
        obtain rfl := tr_var hv
        exact ⟨_, rfl, strS (q _ fun _ _ e => e)⟩
      | cho a1 b1 c1 e1 =>
        obtain ⟨p, v1, v2, v3, v4, rfl, sq, h1, h2, h3, h4⟩ := tr_cho hv
        refine ⟨_, rfl, p, rfl, ⟨_, sq⟩, fun D hD => ?_⟩
        refine lc_it (walk_tup (xs := [v1, v2, v3, v4])) (fun i H' => H' D = some (.lst (([a1, b1, c1, e1].take i).map fun t => V.str t.text)) ∧ Same H H') ⟨upd_same, sNew hD⟩ (fun _ _ _ ⟨_, sm⟩ => SqT.same sm sq) ?_ ?_
        · rintro i x H1 H1' hi ⟨hA, sm⟩ ⟨rfl, hx⟩
          obtain ⟨t, ht, hdt⟩ := get4 (K := K) (H := H) hx h1 h2 h3 h4
          refine ⟨rfl, _, rfl, x, t, rfl, tr_same sm hdt, kid_ok ht ok, by have := kid_deep ht; omega, by omega, fun H2 s2 => ?_⟩
          have hi' : i < 4 := hi
          refine ⟨_, s2 _ _ hA, ?_, ?_, sUpd hD (sm.trans s2)⟩
          · rw [List.length_map, List.length_take]
            exact Nat.lt_of_le_of_lt (Nat.min_le_left _ _) (Nat.lt_trans hi' (by decide))
          · rw [upd_same, List.take_succ, ht, List.map_append]
            rfl
        · rintro H1 ⟨hA, sm⟩
          refine ⟨D, _, rfl, .inl (.inl hA), rfl, _, _, rfl, _, _, rfl, _, _, rfl, _, _, rfl, rfl, ?_⟩
          obtain ⟨oa, ob, oc, oe⟩ : a1.Ok ∧ b1.Ok ∧ c1.Ok ∧ e1.Ok := ok
          have hdd : (Tr.cho a1 b1 c1 e1).deep = 1 + max (max a1.deep b1.deep) (max c1.deep e1.deep) := rfl
          have t1 := text_small oa (by omega)
          have t2 := text_small ob (by omega)
          have t3 := text_small oc (by omega)
          have t4 := text_small oe (by omega)
          have k1 : ("(" : Str).length = 1 := by decide +kernel
          have k2 : ("=" : Str).length = 1 := by decide +kernel
          have k3 : ("?" : Str).length = 1 := by decide +kernel
          have k4 : (":" : Str).length = 1 := by decide +kernel
          have k5 : (")" : Str).length = 1 := by decide +kernel
          have sl := sl10
          refine ⟨_, rfl, addS (by first | omega | (simp only [len_app]; omega)) (addS (by first | omega | (simp only [len_app]; omega)) ⟨_, rfl, addS (by first | omega | (simp only [len_app]; omega)) (addS (by first | omega | (simp only [len_app]; omega)) ⟨_, rfl, addS (by first | omega | (simp only [len_app]; omega)) (addS (by first | omega | (simp only [len_app]; omega)) ⟨_, rfl, addS (by first | omega | (simp only [len_app]; omega)) (addS (by first | omega | (simp only [len_app]; omega)) ?_)⟩)⟩)⟩)⟩
          rw [join_text2]
          exact q _ sm
def Shows (K : PySem.W.Frag) (H : Hp) (x : V) : Prop := (∃ d, Dp K H x d ∧ d.showable = true ∧ d.depth ≤ 60 ∧ d.shown.length ≤ sizeLine) ∨ ∃ e, x = .ref e ∧ H e = some (.dK [])
theorem Shows.same {H H' : Hp} {x : V} (e : Same H H') (h : Shows K H x) : Shows K H' x := by
  rcases h with ⟨d, h1, h2⟩ | ⟨p, h1, h2⟩
  · exact .inl ⟨d, dp_same e h1, h2⟩
  · exact .inr ⟨p, h1, e _ _ h2⟩
theorem Shows.str {H : Hp} {x : V} (h : Shows K H x) : ∃ s : Str, ∀ H', Same H H' → ∀ Q : VK, Q (.str s) H' → rRepr K [x] H' Q := by
  rcases h with ⟨d, h1, h2, h3, h4⟩ | ⟨p, rfl, h2⟩
  · exact ⟨d.shown, fun H' e Q q => reprD (dp_same e h1) h2 h3 h4 q⟩
  · exact ⟨_, fun H' e Q q => repr0 (e _ _ h2) q⟩
end
end Z
set_option maxRecDepth 100000
set_option maxHeartbeats 4000000
namespace Z
open PySem PySem.Spec PyProof.Rows L2
theorem plp_back {f : List Nat → Option (Tr × List Nat)} (h : ∀ l t r, f l = some (t, r) → ls t.text ++ r = l) {a b c e : Tr} {l z : List Nat} (hp : plp f codes l = some ([a, b, c, e], z)) : ls a.text ++ (61 :: (ls b.text ++ (63 :: (ls c.text ++ (58 :: (ls e.text ++ (41 :: z))))))) = l := by
  have step : ∀ {s : Nat} {ss l : List Nat} {t : Tr} {ts : List Tr} {z : List Nat}, plp f (s :: ss) l = some (t :: ts, z) → ∃ q, ls t.text ++ s :: q = l ∧ plp f ss q = some (ts, z) := fun {s ss l t ts z} e => by
    unfold plp at e
    split at e
    · rename_i t' c' q e1
      split at e
      · rename_i hcs
        split at e
        · rename_i us y e2
          cases e
          exact ⟨q, by rw [← hcs]; exact h _ _ _ e1, e2⟩
        · cases e
      · cases e
    · cases e
  obtain ⟨q1, h1, p1⟩ := step hp
  obtain ⟨q2, h2, p2⟩ := step p1
  obtain ⟨q3, h3, p3⟩ := step p2
  obtain ⟨q4, h4, p4⟩ := step p3
  have : q4 = z := by
    unfold plp at p4
    cases p4
    rfl
  rw [← h1, ← h2, ← h3, ← h4, this]
theorem pl_back : ∀ (d : Nat) (l : List Nat) (t : Tr) (r : List Nat), pl d l = some (t, r) → ls t.text ++ r = l
  | 0, l, t, r, h => by cases h
  | d + 1, [], t, r, h => by cases h
  | d + 1, c :: q, t, r, h => by
    unfold pl at h
    split at h
    · rename_i hc
      cases h
      unfold isDB at hc
      simp at hc
      rw [con_text ⟨by omega, by omega⟩]
      show (48 + ((c : Int) - 48).toNat) :: q = _
      rw [show 48 + ((c : Int) - 48).toNat = c by omega]
    · split at h
      · cases h
        show ls (tx ((c :: q).takeWhile isLB)) ++ _ = _
        rw [ls_tx]
        exact List.takeWhile_append_dropWhile
      · split at h
        · cases h
        · rename_i h3
          unfold plx at h
          split at h
          · rename_i a b c' e' z e2
            cases h
            have := plp_back (fun l t r => pl_back d l t r) e2
            rw [cho_text]
            have hc : c = 40 := by omega
            rw [hc]
            simp only [List.cons_append, List.append_assoc, List.nil_append]
            rw [this]
          · cases h
theorem planOf_text {z : Str} {t : Tr} (h : planOf z = some t) : t.text = z := by
  unfold planOf at h
  split at h
  · rename_i u e
    cases h
    have := pl_back 3 _ _ _ e
    rw [List.append_nil] at this
    exact str_ext this
  · cases h
def ShowsAs (K : PySem.W.Frag) (H : Hp) (x : V) (s : Str) : Prop := (∃ d, Dp K H x d ∧ d.showable = true ∧ d.depth ≤ 60 ∧ d.shown.length ≤ sizeLine ∧ s = d.shown) ∨ ∃ e, x = .ref e ∧ H e = some (.dK []) ∧ s = (PyData.dict []).shown
theorem ShowsAs.same {K : PySem.W.Frag} {H H' : Hp} {x : V} {s : Str} (e : Same H H') (h : ShowsAs K H x s) : ShowsAs K H' x s := by
  rcases h with ⟨d, h1, h2⟩ | ⟨p, h1, h2, h3⟩
  · exact .inl ⟨d, dp_same e h1, h2⟩
  · exact .inr ⟨p, h1, e _ _ h2, h3⟩
theorem ShowsAs.repr {K : PySem.W.Frag} {H : Hp} {x : V} {s : Str} {Q : VK} (h : ShowsAs K H x s) (q : Q (.str s) H) : rRepr K [x] H Q := by
  rcases h with ⟨d, h1, h2, h3, h4, rfl⟩ | ⟨p, rfl, h2, rfl⟩
  · exact reprD h1 h2 h3 h4 q
  · exact repr0 h2 q
def Plain (z : Str) (n : Nat) : Prop := z.length ≤ n ∧ ∀ c ∈ ls z, c < 16 ^ 8
theorem Plain.shows {K : PySem.W.Frag} {H : Hp} {z : Str} {n : Nat} (h : Plain z n) (hn : n ≤ 100000) : ShowsAs K H (.str z) (reprText z) := by
  have sl := PySem.sizeLine_eq
  refine .inl ⟨_, .str z, by simp [PyData.showable], by simp [PyData.depth], ?_, by simp only [PyData.shown]⟩
  simp only [PyData.shown]
  have h1 := PySem.StrLaws.reprText_len z h.2
  have h2 := h.1
  omega
theorem cut_plain {z : Str} {n : Nat} (h : Plain z n) (lo hi : Option Int) : ∀ c ∈ ls (cutS z lo hi), c < 16 ^ 8 := fun c hc => by
  unfold cutS at hc
  have : c ∈ (z.cps.toList.drop (HT.sIx z.length 0 lo)).take (HT.sIx z.length z.length hi - HT.sIx z.length 0 lo) := by simpa [ls] using hc
  exact h.2 c (List.mem_of_mem_drop (List.mem_of_mem_take this))
theorem cut_lo {z : Str} {k : Nat} (hk : k ≤ z.length) : (cutS z none (some (k : Nat))).length = k := by
  unfold cutS
  rw [HT.sIx_none, HT.sIx_nat, Nat.min_eq_left hk]
  show (List.toArray _).size = k
  rw [List.size_toArray, List.length_take, List.length_drop, Array.length_toList]
  show min (k - 0) (z.length - 0) = k
  omega
theorem cut_hi {z : Str} {k : Nat} : (cutS z (some (k : Nat)) none).length = z.length - k := by
  unfold cutS
  rw [HT.sIx_none, HT.sIx_nat]
  show (List.toArray _).size = _
  rw [List.size_toArray, List.length_take, List.length_drop, Array.length_toList]
  show min (z.length - min k z.length) (z.length - min k z.length) = z.length - k
  omega
theorem app_plain {a b : Str} (h1 : ∀ c ∈ ls a, c < 16 ^ 8) (h2 : ∀ c ∈ ls b, c < 16 ^ 8) : ∀ c ∈ ls (a ++ b), c < 16 ^ 8 := fun c hc => by
  rw [ls_app, List.mem_append] at hc
  rcases hc with hc | hc
  · exact h1 c hc
  · exact h2 c hc
theorem tyX_same {K : PySem.W.Frag} {H H' : Hp} {x : V} {t : Value} (k : Same H H') (h : TyX K H x t) : TyX K H' x t := by
  cases h with
  | base h =>
    cases h with
    | non => exact .base .non
    | bl b => exact .base (.bl b)
    | int i => exact .base (.int i)
    | str z => exact .base (.str z)
    | flt z => exact .base (.flt z)
    | lst e => exact .base (.lst (k _ _ e))
    | frz e => exact .base (.frz (k _ _ e))
    | tup e => exact .base (.tup (k _ _ e))
    | dK e => exact .base (.dK (k _ _ e))
    | dT e => exact .base (.dT (k _ _ e))
    | ins e cl ha hn htk hm => exact .base (.ins (k _ _ e) cl ha hn htk hm)
  | byt b => exact .byt b
  | set e => exact .set (k _ _ e)
  | kList e c => exact .kList e c
  | kTuple e c => exact .kTuple e c
  | kDict e c => exact .kDict e c
  | fTuple e => exact .fTuple (k _ _ e)
  | fDict e => exact .fDict (k _ _ e)
theorem po_same {K : PySem.W.Frag} {C : Addr} {H H' : Hp} {x : V} {r : Option Tr} (k : Same H H') (h : PO K C H x r) : PO K C H' x r := by
  cases h with
  | str z hz => exact .str z hz
  | own h => exact .own (h.same k)
  | int n => exact .int n
  | oth h k1 k2 e k3 k4 => exact .oth (tyX_same k h) k1 k2 e k3 k4
section
variable {X : Cx} {CX : CXT} {k : Nat} {f C : Addr} {fd : FuncData} {ps : List Str} {sp : Sp} {E : L2.St → XK} {x : Str} {p pos : Pos} {e : Expr} {es : List Expr} {t : TA}
def tMakeX (C : Addr) (sp : Sp) (E : L2.St → XK) (t : TA) : TE := fun σ H Q => t σ H fun vs H1 => ∀ o dx, H1 o = none → H1 dx = none → dx ≠ o → sp (.ref o :: vs) (upd (upd H1 dx (.own o)) o (.ins C dx [])) (fun v H2 => v = .non ∧ Q (.ref o) H2) (E σ)
theorem pe_makeX (M : Mk X.K C f) (F : FnOk X.prog X.w X.K X.mg X.base CX k f fd ps sp) (room : Room (k + 1) X.A) (hg : Gl X x) (hm : X.mg x = some (.ref C)) (bd : Binds X.K fd ps []) (go : ∀ σ, PassesAt CX X σ (E σ))
    (ha : PA X (e :: es) t) (hdb : (x == ("__debug__" : Str)) = false := by decide) (he : starEach (e :: es) X.env = (false, eval e X.env) :: starEach es X.env := by rfl) (hpl : (backTo pos (starEach es X.env)).any (·.1) = false := by rfl) :
    PE X (.Call (.Name x p) (e :: es) [] pos) (tMakeX C sp E t) := by
  constructor
  intro pins s0 σ H0 Q I0 h
  refine wpAny_Call_Name_kw (ld_glob I0 hg hm ?_ hdb)
  refine PySem.W.callWith_K (h₀ := X.base) I0.ok.mod.kin M.kp (thn (ha.run pos pins s0 σ H0 _ I0 h) ?_) he hpl
  rintro us s ⟨vs, H, I, rv, want⟩
  refine ⟨I.kIn, ?_⟩
  have fresh1 := I.hok.fresh (Nat.le_succ s.heap.objs.size)
  have fresh0 := I.hok.fresh (Nat.le_refl s.heap.objs.size)
  have wish := want _ _ fresh1 fresh0 (Nat.ne_of_lt (Nat.lt_succ_self _))
  have J := Inv.made (C := C) I
  have many : Vals (V.ref (s.heap.objs.size + 1) :: vs) (Value.ref (s.heap.objs.size + 1) :: us) := .cons rfl rv
  have few : (Value.ref (s.heap.objs.size + 1) :: us).length = ps.length := many.length.symm.trans (F.len _ _ _ _ wish)
  have bound := bd _ (Value.ref (s.heap.objs.size + 1) :: us) J.kIn (by rw [List.append_nil]; exact few)
  rw [List.append_nil] at bound
  have runs := F.run _ X.stack _ _ ⟨Value.ref (s.heap.objs.size + 1) :: us, []⟩ _ _ _ (E σ) (room.make C us []) (J.env0.make C us []) bound many wish
  refine wpAny_call (make_map (f := f) I.kIn M.makes M.init (beq_iff_eq.mp M.fn) (codeAny_mono runs ?_))
  intro res s' back
  match res, back with
  | .error er, back => exact go σ pins _ _ er s' J back
  | .ok (.ret u), back =>
    obtain ⟨v, H', I3, rv', ev, q3⟩ := J.after back
    subst ev
    exact ⟨rv', ⟨V.ref (s.heap.objs.size + 1), H', I3, rfl, q3⟩⟩
  | .ok .next, back => exact back.elim
  | .ok .brk, back => exact back.elim
  | .ok .cont, back => exact back.elim
end
section
variable {P : Program} {w : World} {K : PySem.W.Frag} {mg : Str → Option Value} {base : Heap} {a : Ad}
def spStr (K : PySem.W.Frag) (C : Addr) : Sp := fun vs H Q _ => ∃ (p : Addr) (t : Tr), vs = [.ref p] ∧ TermAt K C H p t ∧ t.deep ≤ 3 ∧ ∀ H', Same H H' → Q (.str t.text) H'
theorem ok_str (T : Tx P K mg a) : FnOk P w K mg base CX0 5 a.f_Term___str__ a.d_Term___str__ ["self"] (spStr K a.C_Term) := by
  have F1 : FnOk P w K mg base CX0 4 a.f_text_of a.d_text_of ["plan"] (spText K 3) := ok_text T 3
  refine T.Term___str__.ok sc_Term___str__ (fun vs H Q E h => ?_) (fun cdv A outer s H vs Q E hr h => ?_)
  · obtain ⟨p, t, rfl, _⟩ := h
    rfl
  · obtain ⟨p, t, rfl, ⟨dx, u, h1, h2, h3⟩, hd, q⟩ := h
    refine ⟨_, (pss_one (ps_ret (pe_joined1 (pe_fmt (pe_cf T.text_of F1 hr (pa_cons (pe_fld (pv 0) rfl) pa_nil)))))), ?_⟩
    refine ⟨_, rfl, p, _, dx, _, u, rfl, h1, T.c_Term, T.no_Term_tree, rfl, ?_⟩
    refine ⟨u, t, rfl, h2, h3.1, hd, by decide, fun H1 s1 => .inl ⟨_, rfl, ?_, q _ s1⟩⟩
    have := text_small h3.1 hd
    have := sl10
    omega
inductive WQ (K : PySem.W.Frag) (H : Hp) : V → Bool → Prop
  | str (z : Str) (h : z.length ≤ sizeLine) : WQ K H (.str z) (wordB (ls z))
  | oth {x : V} {ty : String} (h : TyX K H x (.type ty)) (k : kitB ty "str" = some false) : WQ K H x false
def spWordX (K : PySem.W.Frag) : Sp := fun vs H Q _ => ∃ (x : V) (b : Bool), vs = [x] ∧ WQ K H x b ∧ ∀ H', Same H H' → Q (.bl b) H'
theorem ok_wordX (T : Tx P K mg a) : FnOk P w K mg base CX0 1 a.f_is_word a.d_is_word ["value"] (spWordX K) := by
  refine T.is_word.fn.ok sc_is_word (fun vs H Q E h => ?_) (fun cdv A outer s H vs Q E hr h => ?_)
  · obtain ⟨x, b, rfl, _⟩ := h
    rfl
  · obtain ⟨x, b, rfl, hx, q⟩ := h
    have nd := sc_is_word.nd
    refine ⟨_, (pss_cons (ps_if (PW.pt (pw_or (pt_not (pt_val (cb_isi T.bi (pa_cons (pv 0) (pa_cons (gl_ty rfl T.bi.str PyProof.Rows.boot_str) pa_nil))))) (pw_or1 (pt_not (pt_chain op_le op_le pe_int (cb_len T.bi (pa_cons (pv 0) pa_nil)) (pe_gi T.v_MOST_LETTERS))))))
      (pss_one (ps_ret pe_bl)) pss_nil)
      (pss_one (ps_ret (pe_cmpR (op_eqX hr) (pe_lc (own := [("sign", 1)]) (by rfl) nd (pi_str (pv 0)) (blkOk_by (own := [("sign", 1)]) (N := ["value", "sign"]) (sc := defScope s_is_word) (by decide +kernel)) (fun _ _ _ _ _ => (pg_name (i := 1) nd rfl (Or.inl rfl))) (fun _ _ _ _ _ => pts_one (pt_cmpR (op_notInA (K := K)) (pv 1) (pe_gs T.v_LETTERS) rfl)) (fun _ _ _ _ _ => (pv 1))) (pe_lst pa_nil) (nomark _))))), ?_⟩
    refine ⟨_, rfl, ?_⟩
    cases hx with
    | oth h k => exact isiTy h k ⟨_, rfl, q H (Same.refl H)⟩
    | str z hz =>
    refine isiTy (.base (.str z)) k_ss ?_
    refine ⟨_, rfl, ?_⟩
    refine ⟨_, rfl, lenS hz ?_⟩
    refine ⟨1, _, rfl, rfl, _, rfl, ?_⟩
    have L : (z.length : Int) = ((ls z).length : Int) := by rw [ls_len]
    by_cases h1 : (1 : Int) ≤ (z.length : Int)
    · rw [decide_eq_true h1]
      refine ⟨_, 8, rfl, rfl, ?_⟩
      by_cases h2 : (z.length : Int) ≤ 8
      · refine ⟨_, rfl, ?_⟩
        rw [decide_eq_true h2]
        have hw : wordB (ls z) = (ls z).all isLB := by
          unfold wordB
          rw [decide_eq_true (show 1 ≤ (ls z).length by omega), decide_eq_true (show (ls z).length ≤ 8 by omega)]
          rfl
        refine ⟨_, rfl, z, rfl, fun D hD => ?_⟩
        refine lc_it (walk_str (z := z)) (fun i H' => ∃ acc : List V, H' D = some (.lst acc) ∧ Same H H' ∧ acc.length ≤ i ∧ acc.isEmpty = ((ls z).take i).all isLB) ⟨[], upd_same, sNew hD, Nat.le_refl _, rfl⟩ (fun _ _ _ _ => trivial) ?_ ?_
        · rintro i x H1 H1' hi ⟨acc, hA, sm, ln, em⟩ ⟨rfl, c, hc, rfl⟩
          refine ⟨rfl, _, rfl, ninSgn ?_⟩
          have hc' : (ls z)[i]? = some c := by
            show z.cps.toList[i]? = some c
            rw [Array.getElem?_toList]
            exact hc
          have tk : (ls z).take (i + 1) = (ls z).take i ++ [c] := by rw [List.take_succ, hc']; rfl
          refine ⟨_, rfl, ?_⟩
          rw [mem_let']
          cases hl : isLB c with
          | true => exact ⟨acc, hA, sm, Nat.le_succ_of_le ln, by rw [tk, List.all_append, ← em]; simp [hl]⟩
          | false =>
            have small : acc.length < sizeLine := by
              have : i < z.length := hi
              omega
            refine ⟨_, rfl, acc, hA, small, acc ++ [.str ⟨#[c]⟩], upd_same, fun b o e => ?_, by rw [List.length_append]; exact Nat.succ_le_succ ln, ?_⟩
            · rw [upd_ne (ne_of_none e hD)]
              exact sm b o e
            · rw [tk, List.all_append]
              simp [hl]
        · rintro H1 ⟨acc, hA, sm, ln, em⟩
          refine ⟨Nat.zero_le _, fun p hp => ?_⟩
          refine eqL0 (.inl (.inl (by rw [upd_ne (ne_of_none hA hp)]; exact hA))) upd_same ?_
          have : (ls z).take z.cps.size = ls z := List.take_of_length_le (by simp [ls])
          rw [em, this, ← hw]
          exact q _ (sm.trans (sNew hp))
      · refine ⟨_, rfl, ?_⟩
        rw [decide_eq_false h2]
        have hw : wordB (ls z) = false := by
          unfold wordB
          rw [decide_eq_false (show ¬ (ls z).length ≤ 8 by omega), Bool.and_false, Bool.false_and]
        rw [hw] at q
        exact q _ (fun _ _ e => e)
    · rw [decide_eq_false h1]
      have hw : wordB (ls z) = false := by
        unfold wordB
        rw [decide_eq_false (show ¬ 1 ≤ (ls z).length by omega), Bool.false_and, Bool.false_and]
      rw [hw] at q
      exact ⟨_, rfl, q _ (fun _ _ e => e)⟩
end
end Z
set_option maxRecDepth 100000
set_option maxHeartbeats 4000000
namespace Z
open PySem PySem.Spec PyProof.Rows L2
theorem text_low : ∀ t : Tr, t.Ok → ∀ c ∈ ls t.text, c < 200
  | .con n, ok, c, hc => by
    rw [con_text ok] at hc
    obtain ⟨h1, h2⟩ : 0 ≤ n ∧ n ≤ 9 := ok
    have := List.mem_singleton.mp hc
    omega
  | .var w, ok, c, hc => by
    obtain ⟨h1, h2⟩ : isLet c := (show Word w from ok).2.2 c hc
    omega
  | .cho a b d e, ok, c, hc => by
    obtain ⟨oa, ob, od, oe⟩ : a.Ok ∧ b.Ok ∧ d.Ok ∧ e.Ok := ok
    rw [cho_text] at hc
    simp only [List.mem_cons, List.mem_append, List.not_mem_nil, or_false] at hc
    rcases hc with rfl | hc | rfl | hc | rfl | hc | rfl | hc | rfl
    · decide
    · exact text_low a oa c hc
    · decide
    · exact text_low b ob c hc
    · decide
    · exact text_low d od c hc
    · decide
    · exact text_low e oe c hc
    · decide
theorem strOk_of {z : Str} (h : ∀ c ∈ ls z, c < 200) : PyData.strOk z = true := by
  unfold PyData.strOk
  rw [← Array.all_toList, List.all_eq_true]
  intro c hc
  have := h c hc
  exact decide_eq_true (by omega)
mutual
theorem eqv_self : ∀ d : PyData, d.canLay0 = true → PyData.eqv d d = true
  | .none, _ => by simp [PyData.eqv]
  | .bool b, _ => by simp [PyData.eqv]
  | .int b, _ => by simp [PyData.eqv]
  | .str b, _ => by simp [PyData.eqv]
  | .list xs, h => by
    simp only [PyData.eqv]
    simp only [PyData.canLay0] at h
    exact eqv_selfAll xs h
  | .tuple xs, h => by
    simp only [PyData.eqv]
    simp only [PyData.canLay0] at h
    exact eqv_selfAll xs h
  | .dict xs, h => by simp [PyData.canLay0] at h
theorem eqv_selfAll : ∀ ds : List PyData, PyData.canLayAll0 ds = true → PyData.eqvAll ds ds = true
  | [], _ => by simp [PyData.eqvAll]
  | x :: xs, h => by
    simp only [PyData.canLayAll0, Bool.and_eq_true] at h
    simp only [PyData.eqvAll, Bool.and_eq_true]
    exact ⟨eqv_self x h.1, eqv_selfAll xs h.2⟩
end
theorem neDself {K : PySem.W.Frag} {x y : V} {d : PyData} {H : Hp} {Q : VK} (h1 : Dp K H x d) (h2 : Dp K H y d) (sh : SeqAt.shaped d = true) (q : Q (.bl false) H) : rNeX K x y H Q := by
  have : PyData.canLay0 d = true := by
    unfold SeqAt.shaped at sh
    rw [Bool.and_eq_true] at sh
    exact sh.1
  refine ⟨.inr (.inr ⟨d, d, h1, h2, sh, sh, ?_⟩)⟩
  rw [eqv_self d this]
  exact q
theorem dpStrs {K : PySem.W.Frag} {H : Hp} : ∀ zs : List Str, DpAll K H (zs.map V.str) (zs.map PyData.str)
  | [] => .nil
  | z :: zs => .cons (.str z) (dpStrs zs)
theorem dpInts {K : PySem.W.Frag} {H : Hp} : ∀ zs : List Int, DpAll K H (zs.map V.int) (zs.map PyData.int)
  | [] => .nil
  | z :: zs => .cons (.int z) (dpInts zs)
theorem laysS : ∀ {zs : List Str}, (∀ z ∈ zs, PyData.strOk z = true) → PyData.canLayAll0 (zs.map PyData.str) = true
  | [], _ => by simp [PyData.canLayAll0]
  | z :: zs, h => by
    simp only [List.map_cons, PyData.canLayAll0, PyData.canLay0, Bool.and_eq_true]
    exact ⟨h z List.mem_cons_self, laysS fun y hy => h y (List.mem_cons_of_mem _ hy)⟩
theorem laysI : ∀ {zs : List Int}, PyData.canLayAll0 (zs.map PyData.int) = true
  | [] => by simp [PyData.canLayAll0]
  | z :: zs => by
    simp only [List.map_cons, PyData.canLayAll0, PyData.canLay0, Bool.true_and]
    exact laysI
theorem depS : ∀ {zs : List Str}, PyData.depthAll (zs.map PyData.str) ≤ 1
  | [] => by simp [PyData.depthAll]
  | z :: zs => by
    simp only [List.map_cons, PyData.depthAll, PyData.depth]
    have := depS (zs := zs)
    omega
theorem depI : ∀ {zs : List Int}, PyData.depthAll (zs.map PyData.int) ≤ 1
  | [] => by simp [PyData.depthAll]
  | z :: zs => by
    simp only [List.map_cons, PyData.depthAll, PyData.depth]
    have := depI (zs := zs)
    omega
def toldD (t : Tr) : PyData := .list [.str t.text, .int t.deep, .str t.kind, .list ((ascS t.ws).map .str), .list ((ascI t.ns).map .int), .list ((t.kids.map Tr.text).map .str), .int t.lv.length]
theorem kids_ok {t k : Tr} (h : t.Ok) (hk : k ∈ t.kids) : k.Ok := by
  cases t with
  | con n => cases hk
  | var w => cases hk
  | cho a b c e =>
    obtain ⟨oa, ob, oc, oe⟩ : a.Ok ∧ b.Ok ∧ c.Ok ∧ e.Ok := h
    have hk : k ∈ [a, b, c, e] := hk
    simp only [List.mem_cons, List.not_mem_nil, or_false] at hk
    rcases hk with rfl | rfl | rfl | rfl <;> assumption
theorem word_low {z : Str} (h : Word z) : ∀ c ∈ ls z, c < 200 := fun c hc => by
  obtain ⟨h1, h2⟩ : isLet c := h.2.2 c hc
  omega
theorem told_shaped {t : Tr} (ok : t.Ok) : SeqAt.shaped (toldD t) = true := by
  have h1 : PyData.strOk t.text = true := strOk_of (text_low t ok)
  have h2 : PyData.strOk t.kind = true := by
    cases t with
    | con => exact (by decide +kernel : PyData.strOk ("constant" : Str) = true)
    | var => exact (by decide +kernel : PyData.strOk ("variable" : Str) = true)
    | cho => exact (by decide +kernel : PyData.strOk ("choice" : Str) = true)
  have h3 : PyData.canLayAll0 ((ascS t.ws).map PyData.str) = true := laysS fun z hz => strOk_of (word_low (ws_word ok z (Ord.mem_asc.mp hz)))
  have h4 : PyData.canLayAll0 ((t.kids.map Tr.text).map PyData.str) = true := laysS fun z hz => by
    obtain ⟨k, hk, rfl⟩ := List.mem_map.mp hz
    exact strOk_of (text_low k (kids_ok ok hk))
  have h5 : PyData.canLayAll0 ((ascI t.ns).map PyData.int) = true := laysI
  have d1 := depS (zs := ascS t.ws)
  have d2 := depI (zs := ascI t.ns)
  have d3 := depS (zs := t.kids.map Tr.text)
  unfold SeqAt.shaped toldD
  simp only [PyData.canLay0, PyData.canLayAll0, PyData.depth, PyData.depthAll, h1, h2, h3, h4, h5, Bool.and_true, Bool.true_and]
  exact decide_eq_true (by omega)
section
variable {P : Program} {w : World} {K : PySem.W.Frag} {mg : Str → Option Value} {base : Heap} {a : Ad}
def spEqX (K : PySem.W.Frag) (C : Addr) : Sp := fun vs H Q _ => ∃ (p : Addr) (y : V) (s : Tr), vs = [.ref p, y] ∧ TermAt K C H p s ∧ ((∃ q t, y = .ref q ∧ TermAt K C H q t ∧ Q (.bl (decide (s = t))) H) ∨ ∃ ty, TyX K H y (.type ty) ∧ PySem.W.kitOne K (.type ty) (.ref C) = some false ∧ Q (.bl false) H)
theorem ok_eqX (T : Tx P K mg a) : FnOk P w K mg base CX0 1 a.f_Term___eq__ a.d_Term___eq__ ["self", "other"] (spEqX K a.C_Term) := by
  refine T.Term___eq__.ok sc_Term___eq__ (fun vs H Q E h => ?_) (fun cdv A outer s H vs Q E hr h => ?_)
  · obtain ⟨p, x, s, rfl, _⟩ := h
    rfl
  · obtain ⟨p, y, s, rfl, ⟨dx, u, h1, h2, h3⟩, h⟩ := h
    refine ⟨_, (pss_one (ps_ret (pe_and (cb_isi T.bi (pa_cons (pv 1) (pa_cons (pe_gr T.g_Term) pa_nil))) (pe_one (pe_cmpR (op_eqX hr) (pe_fld (pv 0) rfl) (pe_fld (pv 1) rfl) (nomark _)))))), ?_⟩
    rcases h with ⟨q, t, rfl, ⟨dy, v, g1, g2, g3⟩, k⟩ | ⟨ty, ht, hk, k⟩
    · refine ⟨_, rfl, isiOwn (tyTerm T g1) T.kit_Term ?_⟩
      refine ⟨_, rfl, ?_⟩
      refine ⟨_, rfl, p, _, dx, _, u, rfl, h1, T.c_Term, T.no_Term_tree, rfl, ?_⟩
      refine ⟨_, rfl, q, _, dy, _, v, rfl, g1, T.c_Term, T.no_Term_tree, rfl, ?_⟩
      exact eqT h2 g2 h3 g3 k
    · refine ⟨_, rfl, isiOwn ht hk ?_⟩
      exact ⟨_, rfl, k⟩
theorem ok_ldeep (T : Tx P K mg a) : ∀ n : Nat, FnOk P w K mg base CX0 (n + 1) a.f__law_tree_deep a.d__law_tree_deep ["tree"] (spDeep K n)
  | 0 => fnNo fun vs H Q E ⟨v, t, _, _, h, _⟩ => by
    have := deep_pos t
    omega
  | n + 1 => by
    have IH : FnOk P w K mg base CX0 (n + 1) a.f__law_tree_deep a.d__law_tree_deep ["tree"] (spDeep K n) := ok_ldeep T n
    refine T._law_tree_deep.fn.ok sc__law_tree_deep (fun vs H Q E h => ?_) (fun cdv A outer s H vs Q E hr h => ?_)
    · obtain ⟨v, t, rfl, _⟩ := h
      rfl
    · obtain ⟨v, t, rfl, hv, hd, q⟩ := h
      have nd := sc__law_tree_deep.nd
      refine ⟨_, (pss_cons (ps_if (pt_val (cb_isi T.bi (pa_cons (pv 0) (pa_cons (gl_ty rfl T.bi.tuple PyProof.Rows.boot_tuple) pa_nil))))
          (pss_one (ps_ret (pe_op op_addA pe_int (cb_max T.bi (pa_cons (pe_lc (own := [("part", 1)]) (by rfl) nd (pi_tup (pv 0)) (blkOk_by (own := [("part", 1)]) (N := ["tree", "part"]) (sc := defScope s__law_tree_deep) (by decide +kernel)) (fun _ _ _ _ _ => (pg_name (i := 1) nd rfl (Or.inl rfl))) (fun _ _ _ _ _ => pts_nil) (fun _ _ _ _ _ => (cb_int T.bi (pa_cons (pe_cf T._law_tree_deep IH hr (pa_cons (pv 1) pa_nil)) pa_nil)))) pa_nil))))) pss_nil)
        (pss_one (ps_ret pe_int))), ?_⟩
      refine ⟨_, rfl, isiTr hv ?_⟩
      refine ⟨_, rfl, ?_⟩
      cases t with
      | con m => exact q _ fun _ _ e => e
      | var x => exact q _ fun _ _ e => e
      | cho a1 b1 c1 e1 =>
        obtain ⟨p, v1, v2, v3, v4, rfl, sq, h1, h2, h3, h4⟩ := tr_cho hv
        refine ⟨_, rfl, p, rfl, ⟨_, sq⟩, fun D hD => ?_⟩
        refine lc_it (walk_tup (xs := [v1, v2, v3, v4])) (fun i H' => H' D = some (.lst (([a1, b1, c1, e1].take i).map fun t => V.int t.deep)) ∧ Same H H') ⟨upd_same, sNew hD⟩ (fun _ _ _ ⟨_, sm⟩ => SqT.same sm sq) ?_ ?_
        · rintro i x H1 H1' hi ⟨hA, sm⟩ ⟨rfl, hx⟩
          obtain ⟨t, ht, hdt⟩ := get4 (K := K) (H := H) hx h1 h2 h3 h4
          have hk := kid_deep ht
          refine ⟨rfl, _, rfl, x, t, rfl, tr_same sm hdt, by omega, fun H2 s2 => intI ?_⟩
          have hi' : i < 4 := hi
          refine ⟨_, s2 _ _ hA, ?_, ?_, sUpd hD (sm.trans s2)⟩
          · rw [List.length_map, List.length_take]
            exact Nat.lt_of_le_of_lt (Nat.min_le_left _ _) (Nat.lt_trans hi' (by decide))
          · rw [upd_same, List.take_succ, ht, List.map_append]
            rfl
        · rintro H1 ⟨hA, sm⟩
          refine ⟨.inr ⟨D, [(a1.deep : Int), b1.deep, c1.deep, e1.deep], rfl, .inl (.inl hA), by show 0 < 4; decide, fun m hm hy => addI ?_⟩⟩
          have e := max4 hm hy
          have hd' : (Tr.cho a1 b1 c1 e1).deep = 1 + max (max a1.deep b1.deep) (max c1.deep e1.deep) := rfl
          have : (1 : Int) + m = ((Tr.cho a1 b1 c1 e1).deep : Nat) := by rw [hd']; omega
          rw [this]
          exact q _ sm
theorem ok_lleaves (T : Tx P K mg a) : ∀ n : Nat, FnOk P w K mg base CX0 (n + 1) a.f__law_tree_leaves a.d__law_tree_leaves ["tree"] (spLeaves K n)
  | 0 => fnNo fun vs H Q E ⟨v, t, _, _, h, _⟩ => by
    have := deep_pos t
    omega
  | n + 1 => by
    have IH : FnOk P w K mg base CX0 (n + 1) a.f__law_tree_leaves a.d__law_tree_leaves ["tree"] (spLeaves K n) := ok_lleaves T n
    refine T._law_tree_leaves.fn.ok sc__law_tree_leaves (fun vs H Q E h => ?_) (fun cdv A outer s H vs Q E hr h => ?_)
    · obtain ⟨v, t, rfl, _⟩ := h
      rfl
    · obtain ⟨v, t, rfl, hv, hd, hl, q⟩ := h
      have nd := sc__law_tree_leaves.nd
      have sl := PySem.sizeLine_eq
      refine ⟨_, (pss_cons (ps_if (pt_not (pt_val (cb_isi T.bi (pa_cons (pv 0) (pa_cons (gl_ty rfl T.bi.tuple PyProof.Rows.boot_tuple) pa_nil))))) (pss_one (ps_ret (pe_lst (pa_cons (pv 0) pa_nil)))) pss_nil)
        (pss_cons (ps_set (i := 1) nd rfl (Or.inl rfl) (pe_lst pa_nil))
        (pss_cons (ps_for PassesOwn.never rfl (pi_tup (pv 0)) (pg_name (i := 2) nd rfl (Or.inl rfl)) (pss_one (ps_set (i := 1) nd rfl (Or.inl rfl) (pe_op op_addA (pv 1) (pe_cf T._law_tree_leaves IH hr (pa_cons (pv 2) pa_nil))))))
        (pss_one (ps_ret (pv 1)))))), ?_⟩
      refine ⟨_, rfl, isiTr hv ?_⟩
      refine ⟨_, rfl, ?_⟩
      cases t with
      | con m =>
        obtain rfl := tr_con hv
        exact ⟨_, rfl, by show 1 ≤ sizeLine; decide, fun p hp => q p _ (sNew hp) hp upd_same⟩
      | var x =>
        obtain rfl := tr_var hv
        exact ⟨_, rfl, by show 1 ≤ sizeLine; decide, fun p hp => q p _ (sNew hp) hp upd_same⟩
      | cho a1 b1 c1 e1 =>
        obtain ⟨p, v1, v2, v3, v4, rfl, sq, h1, h2, h3, h4⟩ := tr_cho hv
        refine ⟨Nat.zero_le _, fun D hD => ?_⟩
        have sD := sNew (o := .lst []) hD
        refine ⟨_, rfl, p, rfl, ⟨_, SqT.same sD sq⟩, ?_⟩
        refine for_it (walk_tup (xs := [v1, v2, v3, v4])) (fun i σ H' => ∃ (r : Addr) (o2 : Option V), σ = [some (.ref p), some (.ref r), o2] ∧ H r = none ∧ H' r = some (.lst (([a1, b1, c1, e1].take i).map Tr.lv).flatten) ∧ Same H H')
          ⟨D, none, rfl, hD, upd_same, sD⟩ (fun _ _ _ _ ⟨_, _, _, _, _, sm⟩ => SqT.same sm sq) ?_ ?_
        · rintro i x σ H1 H1' hi ⟨r, o2, rfl, nr, hr', sm⟩ ⟨rfl, hx⟩
          obtain ⟨t, ht, hdt⟩ := get4 (K := K) (H := H) hx h1 h2 h3 h4
          have hk := kid_deep ht
          have hkl := kid_lv ht
          refine ⟨_, rfl, _, rfl, x, t, rfl, tr_same sm hdt, by omega, by omega, fun p2 H2 s2 n2 g2 => ?_⟩
          have fits : (([a1, b1, c1, e1].take i).map Tr.lv).flatten.length + t.lv.length ≤ sizeLine := by
            have := part_lv (a := a1) (b := b1) (c := c1) (e := e1) i
            omega
          refine addL (s2 _ _ hr') g2 fits fun p3 H3 n3 s3 g3 => ?_
          exact ⟨p3, _, rfl, back_none (sm.trans s2) n3, by rw [g3, take_lv ht], (sm.trans s2).trans s3⟩
        · rintro σ H1 ⟨r, o2, rfl, nr, hr', sm⟩
          refine ⟨_, rfl, q r H1 sm nr ?_⟩
          rw [hr']
          exact congrArg (fun z => some (HO.lst z)) all_lv
def spLWords (K : PySem.W.Frag) : Sp := fun vs H Q _ => ∃ (v : V) (t : Tr), vs = [v] ∧ Dp K H v t.d ∧ t.Ok ∧ t.deep ≤ 3 ∧ ∀ q H', Same H H' → H q = none → H' q = some (.lst ((ascS t.ws).map V.str)) → Q (.ref q) H'
theorem ok_lwordsOf (T : Tx P K mg a) : FnOk P w K mg base CX0 5 a.f__law_tree_words a.d__law_tree_words ["tree"] (spLWords K) := by
  have F1 : FnOk P w K mg base CX0 4 a.f__law_tree_leaves a.d__law_tree_leaves ["tree"] (spLeaves K 3) := ok_lleaves T 3
  refine T._law_tree_words.fn.ok sc__law_tree_words (fun vs H Q E h => ?_) (fun cdv A outer s H vs Q E hr h => ?_)
  · obtain ⟨v, t, rfl, _⟩ := h
    rfl
  · obtain ⟨v, t, rfl, hv, ok, hd, k⟩ := h
    have nd := sc__law_tree_words.nd
    have l16 := lv_16 hd
    refine ⟨_, (pss_one (ps_ret (pe_callB (call_sortHS (P := P) (w := w) rfl) rfl T.bi.sorted PyProof.Rows.boot_sorted (pa_cons (pe_callTy (call_setOf (strSK P w) (K := K) rfl) rfl T.bi.set PyProof.Rows.boot_set (pa_cons (pe_lc (own := [("leaf", 1)]) (by rfl) nd (pi_list (pe_cf T._law_tree_leaves F1 hr (pa_cons (pv 0) pa_nil))) (blkOk_by (own := [("leaf", 1)]) (N := ["tree", "leaf"]) (sc := defScope s__law_tree_words) (by decide +kernel)) (fun _ _ _ _ _ => (pg_name (i := 1) nd rfl (Or.inl rfl))) (fun _ _ _ _ _ => pts_one (pt_val (cb_isiA (K := K) T.bi (pa_cons (pv 1) (pa_cons (gl_ty rfl T.bi.str PyProof.Rows.boot_str) pa_nil))))) (fun _ _ _ _ _ => (pv 1))) pa_nil)) pa_nil)))), ?_⟩
    refine ⟨_, rfl, v, t, rfl, hv, hd, by omega, fun L H1 s1 nL hL => ?_⟩
    refine ⟨L, rfl, ⟨_, .inl (.inl hL)⟩, fun D nD => ?_⟩
    refine lc_it (walk_list (xs := t.lv)) (fun i H' => H' D = some (.lst (((t.lv.take i).filterMap strV).map V.str)) ∧ Same H1 H') ⟨upd_same, sNew nD⟩ (fun _ _ _ ⟨_, sm⟩ => .inl (.inl (sm _ _ hL))) ?_ ?_
    · rintro i x H2 H2' hi ⟨hA, sm⟩ ⟨rfl, hx⟩
      have few := fm_len (f := strV) (xs := t.lv) (i := i)
      rcases lv_at ok hx with ⟨z, rfl, hz⟩ | ⟨m, rfl, hm⟩
      · refine ⟨rfl, _, rfl, ⟨isiTy (.base (.str z)) k_ss ?_⟩⟩
        refine ⟨_, rfl, ?_⟩
        refine ⟨_, rfl, _, hA, by rw [List.length_map]; have := sl1k; omega, ?_, sUpd nD sm⟩
        rw [upd_same, fm_snoc hx, List.map_append]
        rfl
      · refine ⟨rfl, _, rfl, ⟨isiTy (.base (.int m)) (by decide +kernel : kitB "int" "str" = some false) ?_⟩⟩
        refine ⟨_, rfl, ?_⟩
        refine ⟨?_, sm⟩
        rw [hA, fm_snoc hx]
        show some (HO.lst (List.map V.str (List.filterMap strV (List.take i t.lv)))) = some (HO.lst (List.map V.str (List.filterMap strV (List.take i t.lv) ++ [])))
        rw [List.append_nil]
    · rintro H2 ⟨hA, sm⟩
      rw [List.take_length, lv_ws] at hA
      have few := ws_len t
      refine setOf (.inl (.inl (.inl hA))) (by unfold scanBound; omega) fun q H3 n3 s3 h3 => ?_
      have few2 := len_mors (l := []) (ks := t.ws)
      refine ⟨q, _, rfl, h3, by simp only [List.length_nil] at few2; omega, fun r nr => ?_⟩
      have sA := (s1.trans sm).trans s3
      exact k r _ (sA.trans (sNew nr)) (back_none sA nr) (by rw [upd_same, ascS_mors])
def spLDigits (K : PySem.W.Frag) : Sp := fun vs H Q _ => ∃ (v : V) (t : Tr), vs = [v] ∧ Dp K H v t.d ∧ t.Ok ∧ t.deep ≤ 3 ∧ ∀ q H', Same H H' → H q = none → H' q = some (.lst ((ascI t.ns).map V.int)) → Q (.ref q) H'
theorem ok_ldigitsOf (T : Tx P K mg a) : FnOk P w K mg base CX0 5 a.f__law_tree_digits a.d__law_tree_digits ["tree"] (spLDigits K) := by
  have F1 : FnOk P w K mg base CX0 4 a.f__law_tree_leaves a.d__law_tree_leaves ["tree"] (spLeaves K 3) := ok_lleaves T 3
  refine T._law_tree_digits.fn.ok sc__law_tree_digits (fun vs H Q E h => ?_) (fun cdv A outer s H vs Q E hr h => ?_)
  · obtain ⟨v, t, rfl, _⟩ := h
    rfl
  · obtain ⟨v, t, rfl, hv, ok, hd, k⟩ := h
    have nd := sc__law_tree_digits.nd
    have l16 := lv_16 hd
    refine ⟨_, (pss_one (ps_ret (pe_callB (call_sortHI (P := P) (w := w) rfl) rfl T.bi.sorted PyProof.Rows.boot_sorted (pa_cons (pe_callTy (call_setOf (intSK P w) (K := K) rfl) rfl T.bi.set PyProof.Rows.boot_set (pa_cons (pe_lc (own := [("leaf", 1)]) (by rfl) nd (pi_list (pe_cf T._law_tree_leaves F1 hr (pa_cons (pv 0) pa_nil))) (blkOk_by (own := [("leaf", 1)]) (N := ["tree", "leaf"]) (sc := defScope s__law_tree_digits) (by decide +kernel)) (fun _ _ _ _ _ => (pg_name (i := 1) nd rfl (Or.inl rfl))) (fun _ _ _ _ _ => pts_one (pt_val (cb_isiA (K := K) T.bi (pa_cons (pv 1) (pa_cons (gl_ty rfl T.bi.int PyProof.Rows.boot_int) pa_nil))))) (fun _ _ _ _ _ => (pv 1))) pa_nil)) pa_nil)))), ?_⟩
    refine ⟨_, rfl, v, t, rfl, hv, hd, by omega, fun L H1 s1 nL hL => ?_⟩
    refine ⟨L, rfl, ⟨_, .inl (.inl hL)⟩, fun D nD => ?_⟩
    refine lc_it (walk_list (xs := t.lv)) (fun i H' => H' D = some (.lst (((t.lv.take i).filterMap intV).map V.int)) ∧ Same H1 H') ⟨upd_same, sNew nD⟩ (fun _ _ _ ⟨_, sm⟩ => .inl (.inl (sm _ _ hL))) ?_ ?_
    · rintro i x H2 H2' hi ⟨hA, sm⟩ ⟨rfl, hx⟩
      have few := fm_len (f := intV) (xs := t.lv) (i := i)
      rcases lv_at ok hx with ⟨z, rfl, hz⟩ | ⟨m, rfl, hm⟩
      · refine ⟨rfl, _, rfl, ⟨isiTy (.base (.str z)) k_si ?_⟩⟩
        refine ⟨_, rfl, ?_⟩
        refine ⟨?_, sm⟩
        rw [hA, fm_snoc hx]
        show some (HO.lst (List.map V.int (List.filterMap intV (List.take i t.lv)))) = some (HO.lst (List.map V.int (List.filterMap intV (List.take i t.lv) ++ [])))
        rw [List.append_nil]
      · refine ⟨rfl, _, rfl, ⟨isiTy (.base (.int m)) k_ii ?_⟩⟩
        refine ⟨_, rfl, ?_⟩
        refine ⟨_, rfl, _, hA, by rw [List.length_map]; have := sl1k; omega, ?_, sUpd nD sm⟩
        rw [upd_same, fm_snoc hx, List.map_append]
        rfl
    · rintro H2 ⟨hA, sm⟩
      rw [List.take_length, lv_ns] at hA
      have few := ns_len t
      refine setOf (.inl (.inl (.inl hA))) (by unfold scanBound; omega) fun q H3 n3 s3 h3 => ?_
      have few2 := len_mors (l := []) (ks := t.ns)
      refine ⟨q, _, rfl, h3, by simp only [List.length_nil] at few2; omega, fun r nr => ?_⟩
      have sA := (s1.trans sm).trans s3
      exact k r _ (sA.trans (sNew nr)) (back_none sA nr) (by rw [upd_same, ascI_mors])
def spLKind (K : PySem.W.Frag) : Sp := fun vs H Q _ => ∃ (v : V) (t : Tr), vs = [v] ∧ Dp K H v t.d ∧ Q (.str t.kind) H
theorem ok_lkind (T : Tx P K mg a) : FnOk P w K mg base CX0 1 a.f__law_kind_told a.d__law_kind_told ["tree"] (spLKind K) := by
  refine T._law_kind_told.fn.ok sc__law_kind_told (fun vs H Q E h => ?_) (fun cdv A outer s H vs Q E hr h => ?_)
  · obtain ⟨v, t, rfl, _⟩ := h
    rfl
  · obtain ⟨v, t, rfl, hv, k⟩ := h
    refine ⟨_, (pss_cons (ps_if (pt_val (cb_isi T.bi (pa_cons (pv 0) (pa_cons (gl_ty rfl T.bi.tuple PyProof.Rows.boot_tuple) pa_nil)))) (pss_one (ps_ret pe_str)) pss_nil)
      (pss_one (ps_ret (pe_ifExp (pt_val (cb_isi T.bi (pa_cons (pv 0) (pa_cons (gl_ty rfl T.bi.str PyProof.Rows.boot_str) pa_nil)))) pe_str pe_str)))), ?_⟩
    refine ⟨_, rfl, isiTr hv ?_⟩
    refine ⟨_, rfl, ?_⟩
    cases t with
    | cho => exact k
    | con m =>
      obtain rfl := tr_con hv
      exact ⟨_, rfl, isiTy (.base (.int m)) (by decide +kernel : kitB "int" "str" = some false) ⟨_, rfl, k⟩⟩
    | var x =>
      obtain rfl := tr_var hv
      exact ⟨_, rfl, isiTy (.base (.str x)) k_ss ⟨_, rfl, k⟩⟩
end
end Z
set_option maxRecDepth 100000
set_option maxHeartbeats 4000000
namespace Z
open PySem PySem.Spec PyProof.Rows L2
section
variable {P : Program} {w : World} {K : PySem.W.Frag} {mg : Str → Option Value} {base : Heap} {a : Ad}
theorem told_dp {H : Hp} {q pv pc pp : Addr} {t : Tr} (h : SqL K H q [.str t.text, .int t.deep, .str t.kind, .ref pv, .ref pc, .ref pp, .int t.lv.length]) (h1 : H pv = some (.lst ((ascS t.ws).map V.str))) (h2 : H pc = some (.lst ((ascI t.ns).map V.int))) (h3 : H pp = some (.lst ((t.kids.map Tr.text).map V.str))) : Dp K H (.ref q) (toldD t) :=
  .lst h (.cons (.str _) (.cons (.int _) (.cons (.str _) (.cons (.lst (.inl (.inl h1)) (dpStrs _)) (.cons (.lst (.inl (.inl h2)) (dpInts _)) (.cons (.lst (.inl (.inl h3)) (dpStrs _)) (.cons (.int _) .nil)))))))
def spTold (K : PySem.W.Frag) (C : Addr) : Sp := fun vs H Q _ => ∃ (p : Addr) (t : Tr), vs = [.ref p] ∧ TermAt K C H p t ∧ t.deep ≤ 3 ∧ ∀ q H', Same H H' → Dp K H' (.ref q) (toldD t) → Q (.ref q) H'
theorem ok_toldT (T : Tx P K mg a) : FnOk P w K mg base CX0 10 a.f__law_told a.d__law_told ["term"] (spTold K a.C_Term) := by
  have F1 : FnOk P w K mg base CX0 9 a.f_Term_parts a.d_Term_parts ["self"] (spParts K a.C_Term) := ok_parts T
  have F2 : FnOk P w K mg base CX0 5 a.f_Term___str__ a.d_Term___str__ ["self"] (spStr K a.C_Term) := ok_str T
  have F3 : FnOk P w K mg base CX0 5 a.f_Term_depth a.d_Term_depth ["self"] (spTDepth K a.C_Term) := ok_tdepth T
  have F4 : FnOk P w K mg base CX0 2 a.f_Term_kind a.d_Term_kind ["self"] (spTKind K a.C_Term) := ok_tkind T
  have F5 : FnOk P w K mg base CX0 5 a.f_Term_variables a.d_Term_variables ["self"] (spTVars K a.C_Term) := ok_tvars T
  have F6 : FnOk P w K mg base CX0 5 a.f_Term_constants a.d_Term_constants ["self"] (spTCons K a.C_Term) := ok_tcons T
  have F7 : FnOk P w K mg base CX0 5 a.f_Term___len__ a.d_Term___len__ ["self"] (spTLen K a.C_Term) := ok_tlen T
  refine T._law_told.fn.ok sc__law_told (fun vs H Q E h => ?_) (fun cdv A outer s H vs Q E hr h => ?_)
  · obtain ⟨p, t, rfl, _⟩ := h
    rfl
  · obtain ⟨p, t, rfl, ht, hd, k⟩ := h
    have nd := sc__law_told.nd
    have isS : PySem.W.isFn K (.ref a.f_Term___str__) = true := T.m_Term___str__.fn
    have isL : PySem.W.isFn K (.ref a.f_Term___len__) = true := T.m_Term___len__.fn
    have hr7 : Room 7 _ := hr.mono (by decide)
    have hr5 : Room 5 _ := hr.mono (by decide)
    refine ⟨_, (pss_cons (ps_setLc (i := 1) (own := [("part", 2)]) (by rfl) nd rfl rfl (sw_true rfl rfl rfl (by decide +kernel)) (pi_list (pe_meth0 (pv 0) T.c_Term T.m_Term_parts F1 hr T.b_Term_parts .nil pass0)) (blkOk_by (own := [("part", 2)]) (N := ["term", "parts", "part"]) (sc := defScope s__law_told) (by decide +kernel)) (fun _ _ _ _ _ => (pg_name (i := 2) nd rfl (Or.inl rfl))) (fun _ _ _ _ _ => pts_nil) (fun _ _ _ _ _ => (pe_callTy (call_strO F2 T.m_Term___str__.at_ isS T.b_Term___str__ pass0 hr7) rfl T.bi.str PyProof.Rows.boot_str (pa_cons (pv 2) pa_nil))))
      (pss_one (ps_ret (pe_lst (pa_cons (pe_callTy (call_strO F2 T.m_Term___str__.at_ isS T.b_Term___str__ pass0 hr7) rfl T.bi.str PyProof.Rows.boot_str (pa_cons (pv 0) pa_nil)) (pa_cons (pe_prop (pv 0) T.c_Term T.p_Term_depth F3 (hr.mono (by decide)) T.b_Term_depth .nil pass0 rfl) (pa_cons (pe_prop (pv 0) T.c_Term T.p_Term_kind F4 (hr.mono (by decide)) T.b_Term_kind .nil pass0 rfl) (pa_cons (pe_meth0 (pv 0) T.c_Term T.m_Term_variables F5 (hr.mono (by decide)) T.b_Term_variables .nil pass0) (pa_cons (pe_meth0 (pv 0) T.c_Term T.m_Term_constants F6 (hr.mono (by decide)) T.b_Term_constants .nil pass0) (pa_cons (pv 1) (pa_cons (pe_callB (call_lenO F7 T.m_Term___len__.at_ isL T.b_Term___len__ pass0 (hr.mono (by decide))) rfl T.bi.len PySem.boot_len (pa_cons (pv 0) pa_nil)) pa_nil))))))))))), ?_⟩
    have j0 := ht
    obtain ⟨dx, u, h1, _⟩ := j0
    refine ⟨_, rfl, p, dx, _, rfl, h1, lk1, p, t, rfl, ht, hd, fun L ps H1 s1 hL ln kids => ?_⟩
    refine ⟨L, rfl, ⟨_, .inl (.inl hL)⟩, fun D nD => ?_⟩
    refine lc_it (walk_list (xs := ps.map V.ref)) (fun i H' => H' D = some (.lst (((t.kids.take i).map Tr.text).map V.str)) ∧ Same H1 H') ⟨upd_same, sNew nD⟩ (fun _ _ _ ⟨_, sm⟩ => .inl (.inl (sm _ _ hL))) ?_ ?_
    · rintro i x H2 H2' hi ⟨hA, sm⟩ ⟨rfl, hx⟩
      obtain ⟨q, hq, rfl⟩ := map_at hx
      have hi' : i < t.kids.length := by
        have : i < (ps.map V.ref).length := hi
        rw [List.length_map] at this
        omega
      have hk : t.kids[i]? = some t.kids[i] := List.getElem?_eq_getElem hi'
      have tq := (kids i q _ hq hk).same sm
      have k4 : t.kids.length ≤ 4 := by
        cases t with
        | con => exact Nat.zero_le _
        | var => exact Nat.zero_le _
        | cho => exact Nat.le_refl 4
      have kd : t.kids[i].deep ≤ 3 := by
        have hm : t.kids[i] ∈ t.kids := List.getElem_mem hi'
        generalize t.kids[i] = y at hm
        cases t with
        | con n => cases hm
        | var w => cases hm
        | cho a b c e =>
          have hm : y ∈ [a, b, c, e] := hm
          obtain ⟨j, hj, e⟩ := List.mem_iff_getElem.mp hm
          have := kid_deep (t := y) (i := j) (by rw [List.getElem?_eq_getElem hj, e])
          omega
      have j1 := tq
      obtain ⟨dy, v, g1, _⟩ := j1
      refine ⟨rfl, _, rfl, q, dy, _, rfl, g1, q, _, rfl, tq, kd, fun H3 s3 => ⟨_, rfl, ?_⟩⟩
      refine ⟨_, s3 _ _ hA, ?_, ?_, sUpd nD (sm.trans s3)⟩
      · rw [List.length_map, List.length_map, List.length_take]
        have := sl1k
        omega
      · rw [upd_same, List.take_succ, hk, List.map_append, List.map_append]
        rfl
    · rintro H2 ⟨hA, sm⟩
      have e : (ps.map V.ref).length = t.kids.length := by rw [List.length_map]; exact ln
      rw [e, List.take_length] at hA
      have s2 := s1.trans sm
      have ht2 := ht.same s2
      refine ⟨_, rfl, p, dx, _, rfl, s2 _ _ h1, p, t, rfl, ht2, hd, fun H3 s3 => ⟨_, rfl, ?_⟩⟩
      have s13 := s2.trans s3
      refine ⟨_, rfl, p, dx, _, rfl, s13 _ _ h1, p, t, rfl, ht2.same s3, hd, fun H4 s4 => ?_⟩
      have s14 := s13.trans s4
      refine ⟨_, rfl, p, dx, _, rfl, s14 _ _ h1, p, t, rfl, ht.same s14, ?_⟩
      refine ⟨_, rfl, p, dx, _, rfl, s14 _ _ h1, lk1, p, t, rfl, ht.same s14, hd, fun qv H5 s5 n5 h5 => ?_⟩
      have s15 := s14.trans s5
      refine ⟨_, rfl, p, dx, _, rfl, s15 _ _ h1, lk1, p, t, rfl, ht.same s15, hd, fun qc H6 s6 n6 h6 => ?_⟩
      have s16 := s15.trans s6
      refine ⟨_, rfl, _, rfl, p, dx, _, rfl, s16 _ _ h1, p, t, rfl, ht.same s16, hd, fun H7 s7 => ⟨_, rfl, ?_, ?_⟩⟩
      · have := lv_16 hd
        omega
      have s17 := s16.trans s7
      refine ⟨by show 7 ≤ sizeLine; decide, fun q nq => ?_⟩
      have s18 := sNew (o := .lst [V.str t.text, .int t.deep, .str t.kind, .ref qv, .ref qc, .ref D, .int t.lv.length]) nq
      exact k q _ (s17.trans s18) (told_dp (.inl (.inl upd_same)) (s18 _ _ (s7 _ _ (s6 _ _ h5))) (s18 _ _ (s7 _ _ h6)) (s18 _ _ (s7 _ _ (s6 _ _ (s5 _ _ (s4 _ _ (s3 _ _ hA)))))))
def spDueT (K : PySem.W.Frag) : Sp := fun vs H Q _ => ∃ (v : V) (t : Tr), vs = [v] ∧ Dp K H v t.d ∧ t.Ok ∧ t.deep ≤ 3 ∧ ∀ q H', Same H H' → Dp K H' (.ref q) (toldD t) → Q (.ref q) H'
theorem ok_dueT (T : Tx P K mg a) : FnOk P w K mg base CX0 6 a.f__law_due a.d__law_due ["tree"] (spDueT K) := by
  have F1 : FnOk P w K mg base CX0 4 a.f__law_tree_text a.d__law_tree_text ["tree"] (spText K 3) := ok_ltext T 3
  have F2 : FnOk P w K mg base CX0 4 a.f__law_tree_deep a.d__law_tree_deep ["tree"] (spDeep K 3) := ok_ldeep T 3
  have F3 : FnOk P w K mg base CX0 1 a.f__law_kind_told a.d__law_kind_told ["tree"] (spLKind K) := ok_lkind T
  have F4 : FnOk P w K mg base CX0 5 a.f__law_tree_words a.d__law_tree_words ["tree"] (spLWords K) := ok_lwordsOf T
  have F5 : FnOk P w K mg base CX0 5 a.f__law_tree_digits a.d__law_tree_digits ["tree"] (spLDigits K) := ok_ldigitsOf T
  have F6 : FnOk P w K mg base CX0 4 a.f__law_tree_leaves a.d__law_tree_leaves ["tree"] (spLeaves K 3) := ok_lleaves T 3
  refine T._law_due.fn.ok sc__law_due (fun vs H Q E h => ?_) (fun cdv A outer s H vs Q E hr h => ?_)
  · obtain ⟨v, t, rfl, _⟩ := h
    rfl
  · obtain ⟨v, t, rfl, hv, ok, hd, k⟩ := h
    have nd := sc__law_due.nd
    have hr4 : Room 4 _ := hr.mono (by decide)
    refine ⟨_, (pss_cons (ps_set (i := 1) nd rfl (Or.inl rfl) (pe_ifExp (pt_val (cb_isi T.bi (pa_cons (pv 0) (pa_cons (gl_ty rfl T.bi.tuple PyProof.Rows.boot_tuple) pa_nil)))) (pe_lc (own := [("part", 3)]) (by rfl) nd (pi_tup (pv 0)) (blkOk_by (own := [("part", 3)]) (N := ["tree", "parts", "found", "part"]) (sc := defScope s__law_due) (by decide +kernel)) (fun _ _ _ _ _ => (pg_name (i := 3) nd rfl (Or.inl rfl))) (fun _ _ _ _ _ => pts_nil) (fun _ _ _ _ _ => (pe_cf T._law_tree_text F1 hr4 (pa_cons (pv 3) pa_nil)))) (pe_lst pa_nil)))
      (pss_cons (ps_set (i := 2) nd rfl (Or.inl rfl) (pe_lst (pa_cons (pe_cf T._law_tree_text F1 hr4 (pa_cons (pv 0) pa_nil)) (pa_cons (pe_cf T._law_tree_deep F2 hr4 (pa_cons (pv 0) pa_nil)) (pa_cons (pe_cf T._law_kind_told F3 (hr.mono (by decide)) (pa_cons (pv 0) pa_nil)) (pa_cons (pe_cf T._law_tree_words F4 (hr.mono (by decide)) (pa_cons (pv 0) pa_nil)) pa_nil))))))
      (pss_one (ps_ret (pe_op op_addA (pv 2) (pe_lst (pa_cons (pe_cf T._law_tree_digits F5 (hr.mono (by decide)) (pa_cons (pv 0) pa_nil)) (pa_cons (pv 1) (pa_cons (cb_len T.bi (pa_cons (pe_cf T._law_tree_leaves F6 hr4 (pa_cons (pv 0) pa_nil)) pa_nil)) pa_nil))))))))), ?_⟩
    have l16 := lv_16 hd
    have fin : ∀ {H1 : Hp} {pp : Addr}, Same H H1 → H1 pp = some (.lst ((t.kids.map Tr.text).map V.str)) → (tSeq (tAsg (tLst (tCons (tCall (spText K 3) [] E0 (tCons (tVar 0) tNil)) (tCons (tCall (spDeep K 3) [] E0 (tCons (tVar 0) tNil)) (tCons (tCall (spLKind K) [] E0 (tCons (tVar 0) tNil)) (tCons (tCall (spLWords K) [] E0 (tCons (tVar 0) tNil)) tNil))))) (gName 2))
        (tRet (tOp (rAddA K) (tVar 2) (tLst (tCons (tCall (spLDigits K) [] E0 (tCons (tVar 0) tNil)) (tCons (tVar 1) (tCons (tCB (rLenA K) (tCons (tCall (spLeaves K 3) [] E0 (tCons (tVar 0) tNil)) tNil)) tNil)))))))
        { nx := fun _ H' => Q .non H', rt := Q } [some v, some (.ref pp), none, none] H1 := by
      intro H1 pp s1 hp
      refine ⟨_, rfl, v, t, rfl, tr_same s1 hv, ok, hd, by decide, fun H2 s2 => ?_⟩
      have s12 := s1.trans s2
      refine ⟨_, rfl, v, t, rfl, tr_same s12 hv, hd, fun H3 s3 => ?_⟩
      have s13 := s12.trans s3
      refine ⟨_, rfl, v, t, rfl, tr_same s13 hv, ?_⟩
      refine ⟨_, rfl, v, t, rfl, tr_same s13 hv, ok, hd, fun qv H4 s4 n4 h4 => ?_⟩
      have s14 := s13.trans s4
      refine ⟨by show 4 ≤ sizeLine; decide, fun pf nf => ?_⟩
      have s5 := sNew (o := .lst [V.str t.text, .int t.deep, .str t.kind, .ref qv]) nf
      have s15 := s14.trans s5
      refine ⟨_, rfl, _, rfl, v, t, rfl, tr_same s15 hv, ok, hd, fun qc H6 s6 n6 h6 => ?_⟩
      have s16 := s15.trans s6
      refine ⟨_, rfl, _, rfl, v, t, rfl, tr_same s16 hv, hd, by omega, fun L H7 s7 n7 h7 => lenL (.inl (.inl h7)) ?_⟩
      refine ⟨by show 3 ≤ sizeLine; decide, fun pg ng => ?_⟩
      have s8 := sNew (o := .lst [V.ref qc, .ref pp, .int t.lv.length]) ng
      refine addL (s8 _ _ (s7 _ _ (s6 _ _ upd_same))) upd_same (by show 7 ≤ sizeLine; decide) fun q H9 nq s9 hq => ?_
      have s79 := (s7.trans s8).trans s9
      refine k q H9 ((s16.trans s79)) (told_dp (.inl (.inl hq)) (s79 _ _ (s6 _ _ (s5 _ _ h4))) (s79 _ _ h6) ?_)
      exact s79 _ _ (s6 _ _ (s5 _ _ (s4 _ _ (s3 _ _ (s2 _ _ hp)))))
    refine ⟨_, rfl, isiTr hv ?_⟩
    cases t with
    | con m => exact ⟨_, rfl, Nat.zero_le _, fun D nD => fin (sNew nD) upd_same⟩
    | var x => exact ⟨_, rfl, Nat.zero_le _, fun D nD => fin (sNew nD) upd_same⟩
    | cho a1 b1 c1 e1 =>
      obtain ⟨p, v1, v2, v3, v4, rfl, sq, h1, h2, h3, h4⟩ := tr_cho hv
      refine ⟨_, rfl, _, rfl, p, rfl, ⟨_, sq⟩, fun D hD => ?_⟩
      refine lc_it (walk_tup (xs := [v1, v2, v3, v4])) (fun i H' => H' D = some (.lst (([a1, b1, c1, e1].take i).map fun t => V.str t.text)) ∧ Same H H') ⟨upd_same, sNew hD⟩ (fun _ _ _ ⟨_, sm⟩ => SqT.same sm sq) ?_ ?_
      · rintro i x H1 H1' hi ⟨hA, sm⟩ ⟨rfl, hx⟩
        obtain ⟨t, ht, hdt⟩ := get4 (K := K) (H := H) hx h1 h2 h3 h4
        refine ⟨rfl, _, rfl, x, t, rfl, tr_same sm hdt, kid_ok ht ok, by have := kid_deep ht; omega, by decide, fun H2 s2 => ?_⟩
        have hi' : i < 4 := hi
        refine ⟨_, s2 _ _ hA, ?_, ?_, sUpd hD (sm.trans s2)⟩
        · rw [List.length_map, List.length_take]
          exact Nat.lt_of_le_of_lt (Nat.min_le_left _ _) (Nat.lt_trans hi' (by decide))
        · rw [upd_same, List.take_succ, ht, List.map_append]
          rfl
      · rintro H1 ⟨hA, sm⟩
        exact fin sm hA
end
end Z
set_option maxRecDepth 100000
set_option maxHeartbeats 8000000
namespace Z
open PySem PySem.Spec PyProof.Rows L2
structure rInX (K : PySem.W.Frag) (x y : V) (H : Hp) (Q : VK) : Prop where
  h : rInD K x y H Q
theorem op_inX {X : Cx} {k : Nat} {K : PySem.W.Frag} (hr : Room (k + 1) X.A) (hk : X.K = K := by rfl) : OpR X (compareOp .In) (rInX K) := by
  subst hk
  have hu : X.A.units + 1 + 64 < cLine := hr.in1.units
  exact OpR.box (op_inD (by omega)) fun _ _ _ _ q => q.h
def vD : V → PyData
  | .str z => .str z
  | .int n => .int n
  | _ => .none
theorem dp_lv {K : PySem.W.Frag} {H : Hp} : ∀ {xs : List V}, (∀ v ∈ xs, Leaf v) → DpAll K H xs (xs.map vD)
  | [], _ => .nil
  | v :: xs, h => by
    refine .cons ?_ (dp_lv fun y hy => h y (List.mem_cons_of_mem _ hy))
    rcases h v List.mem_cons_self with ⟨z, rfl, _⟩ | ⟨n, rfl, _⟩
    · exact .str z
    · exact .int n
theorem lay_lv : ∀ {xs : List V}, (∀ v ∈ xs, Leaf v) → PyData.canLayAll0 (xs.map vD) = true ∧ PyData.depthAll (xs.map vD) ≤ 1
  | [], _ => ⟨by simp [PyData.canLayAll0], by simp [PyData.depthAll]⟩
  | v :: xs, h => by
    obtain ⟨i1, i2⟩ := lay_lv fun y hy => h y (List.mem_cons_of_mem _ hy)
    rcases h v List.mem_cons_self with ⟨z, rfl, hz⟩ | ⟨n, rfl, _⟩
    · have := strOk_of (word_low hz)
      simp only [List.map_cons, vD, PyData.canLayAll0, PyData.canLay0, PyData.depthAll, PyData.depth, this, i1, Bool.and_true]
      exact ⟨trivial, by omega⟩
    · simp only [List.map_cons, vD, PyData.canLayAll0, PyData.canLay0, PyData.depthAll, PyData.depth, i1, Bool.and_true]
      exact ⟨trivial, by omega⟩
theorem lv_shaped {xs : List V} (h : ∀ v ∈ xs, Leaf v) : SeqAt.shaped (.list (xs.map vD)) = true := by
  obtain ⟨i1, i2⟩ := lay_lv h
  unfold SeqAt.shaped
  simp only [PyData.canLay0, PyData.depth, i1, Bool.true_and]
  exact decide_eq_true (by omega)
theorem any_lv {x : V} (hx : (∃ z, x = .str z) ∨ ∃ n, x = .int n) : ∀ {xs : List V}, (∀ v ∈ xs, Leaf v) → (xs.map vD).any (fun z => PyData.eqv z (vD x)) = xs.any fun y => decide (y = x)
  | [], _ => rfl
  | v :: xs, h => by
    have ih := any_lv hx (xs := xs) fun y hy => h y (List.mem_cons_of_mem _ hy)
    rw [List.map_cons, List.any_cons, List.any_cons, ih]
    congr 1
    rcases h v List.mem_cons_self with ⟨z, rfl, hz⟩ | ⟨n, rfl, _⟩ <;> rcases hx with ⟨z', rfl⟩ | ⟨n', rfl⟩
    · simp only [vD, PyData.eqv, dec_str]
    · simp [vD, PyData.eqv]
    · simp [vD, PyData.eqv]
    · simp only [vD, PyData.eqv, dec_int]
theorem any_no {d : PyData} (h1 : ∀ z, PyData.eqv (.str z) d = false) (h2 : ∀ n, PyData.eqv (.int n) d = false) : ∀ {xs : List V}, (∀ v ∈ xs, Leaf v) → (xs.map vD).any (fun z => PyData.eqv z d) = false
  | [], _ => rfl
  | v :: xs, h => by
    rw [List.map_cons, List.any_cons, any_no h1 h2 fun y hy => h y (List.mem_cons_of_mem _ hy), Bool.or_false]
    rcases h v List.mem_cons_self with ⟨z, rfl, hz⟩ | ⟨n, rfl, _⟩
    · exact h1 z
    · exact h2 n
theorem dpAll_at {K : PySem.W.Frag} {H : Hp} : ∀ {us : List V} {ts : List Tr} {i : Nat} {x : V}, DpAll K H us (ts.map Tr.d) → us[i]? = some x → ∃ t, ts[i]? = some t ∧ Dp K H x t.d
  | [], ts, i, x, _, h => by simp at h
  | u :: us, [], i, x, d, _ => by cases d
  | u :: us, t :: ts, 0, x, d, h => by
    cases d with
    | cons a b =>
      cases h
      exact ⟨t, rfl, a⟩
  | u :: us, t :: ts, i + 1, x, d, h => by
    cases d with
    | cons a b => exact dpAll_at (ts := ts) b (by simpa using h)
def Thg (K : PySem.W.Frag) (H : Hp) (x : V) : Prop := (∃ b, x = .bl b) ∨ (((∃ z, x = .str z ∧ PyData.strOk z = true) ∨ ∃ n, x = .int n) ∨
  ∃ d ty, Dp K H x d ∧ SeqAt.shaped d = true ∧ TyX K H x (.type ty) ∧ kitB ty "bool" = some false ∧ kitB ty "str" = some false ∧ kitB ty "int" = some false ∧ (∀ z, PyData.eqv (.str z) d = false) ∧ ∀ n, PyData.eqv (.int n) d = false)
theorem thgs {K : PySem.W.Frag} {H : Hp} {ws : List Str} {pt pz : Addr} (hw : ∀ y ∈ ws, Word y) (ht : H pt = some (.tup [])) (hz : H pz = some (.lst [V.int 0])) :
    ∀ x ∈ ws.map V.str ++ [V.str "zzzzzzzz", .int 0, .int 1, .int 7, .int 9, .int 5, .bl true, .non, .str "", .ref pt, .ref pz], Thg K H x := by
  intro x hx
  rcases List.mem_append.mp hx with hx | hx
  · obtain ⟨y, hy, rfl⟩ := List.mem_map.mp hx
    exact .inr (.inl (.inl ⟨y, rfl, strOk_of (word_low (hw y hy))⟩))
  · simp only [List.mem_cons, List.not_mem_nil, or_false] at hx
    rcases hx with rfl | rfl | rfl | rfl | rfl | rfl | rfl | rfl | rfl | rfl | rfl
    · exact .inr (.inl (.inl ⟨_, rfl, by decide +kernel⟩))
    · exact .inr (.inl (.inr ⟨_, rfl⟩))
    · exact .inr (.inl (.inr ⟨_, rfl⟩))
    · exact .inr (.inl (.inr ⟨_, rfl⟩))
    · exact .inr (.inl (.inr ⟨_, rfl⟩))
    · exact .inr (.inl (.inr ⟨_, rfl⟩))
    · exact .inl ⟨true, rfl⟩
    · exact .inr (.inr ⟨.none, "NoneType", .non, by decide +kernel, .base .non, by decide +kernel, by decide +kernel, by decide +kernel, fun z => by simp [PyData.eqv], fun n => by simp [PyData.eqv]⟩)
    · exact .inr (.inl (.inl ⟨_, rfl, by decide +kernel⟩))
    · exact .inr (.inr ⟨.tuple [], "tuple", .tup (.inl (.inl ht)) .nil, by decide +kernel, .base (.tup ht), by decide +kernel, by decide +kernel, by decide +kernel, fun z => by simp [PyData.eqv], fun n => by simp [PyData.eqv]⟩)
    · exact .inr (.inr ⟨.list [.int 0], "list", .lst (.inl (.inl hz)) (.cons (.int 0) .nil), by decide +kernel, .base (.lst hz), by decide +kernel, by decide +kernel, by decide +kernel, fun z => by simp [PyData.eqv], fun n => by simp [PyData.eqv]⟩)
theorem k_bb' : kitB "bool" "bool" = some true := by decide +kernel
section
variable {P : Program} {w : World} {K : PySem.W.Frag} {mg : Str → Option Value} {base : Heap} {a : Ad}
def spPartsN (K : PySem.W.Frag) (C : Addr) : Sp := fun vs H Q _ => ∃ (p : Addr) (t : Tr), vs = [.ref p] ∧ TermAt K C H p t ∧ t.deep ≤ 3 ∧
  ∀ l (ps : List Addr) H', Same H H' → H l = none → H' l = some (.lst (ps.map V.ref)) → ps.length = t.kids.length → (∀ (i : Nat) (q : Addr) (k : Tr), ps[i]? = some q → t.kids[i]? = some k → TermAt K C H' q k) → Q (.ref l) H'
theorem ok_partsN (T : Tx P K mg a) : FnOk P w K mg base CX0 9 a.f_Term_parts a.d_Term_parts ["self"] (spPartsN K a.C_Term) := by
  have F1 : FnOk P w K mg base CX0 4 a.f_text_of a.d_text_of ["plan"] (spText K 3) := ok_text T 3
  have F2 : FnOk P w K mg base (L2.CX P w) 7 a.f_Term___init__ a.d_Term___init__ ["self", "value"] (spInit K a.C_Term a.C_NoTerm) := ok_init T
  refine T.Term_parts.ok sc_Term_parts (fun vs H Q E h => ?_) (fun cdv A outer s H vs Q E hr h => ?_)
  · obtain ⟨p, t, rfl, _⟩ := h
    rfl
  · obtain ⟨p, t, rfl, ⟨dx, u, h1, h2, h3⟩, hd, k⟩ := h
    have nd := sc_Term_parts.nd
    refine ⟨_, (pss_cons (ps_if (pt_not (pt_val (cb_isi T.bi (pa_cons (pe_fld (pv 0) rfl) (pa_cons (gl_ty rfl T.bi.tuple PyProof.Rows.boot_tuple) pa_nil))))) (pss_one (ps_ret (pe_lst pa_nil))) pss_nil)
      (pss_one (ps_ret (pe_lc (own := [("part", 1)]) (by rfl) nd (pi_tup (pe_fld (pv 0) rfl)) (blkOk_by (own := [("part", 1)]) (N := ["self", "part"]) (sc := defScope s_Term_parts) (by decide +kernel)) (fun _ _ _ _ _ => (pg_name (i := 1) nd rfl (Or.inl rfl))) (fun _ _ _ _ _ => pts_nil)
        (fun _ _ _ _ _ => (pe_make T.mk_Term F2 hr rfl T.g_Term T.b_Term___init__ .nil passL (pa_cons (pe_cf T.text_of F1 (hr.mono (by decide)) (pa_cons (pv 1) pa_nil)) pa_nil))))))), ?_⟩
    refine ⟨_, rfl, p, _, dx, _, u, rfl, h1, T.c_Term, T.no_Term_tree, rfl, isiTr h2 ?_⟩
    refine ⟨_, rfl, ?_⟩
    cases t with
    | con m => exact ⟨Nat.zero_le _, fun l hl => k l [] _ (sNew hl) hl upd_same rfl fun i q k h _ => by simp at h⟩
    | var m => exact ⟨Nat.zero_le _, fun l hl => k l [] _ (sNew hl) hl upd_same rfl fun i q k h _ => by simp at h⟩
    | cho a1 b1 c1 e1 =>
      obtain ⟨y, v1, v2, v3, v4, rfl, sq, g1, g2, g3, g4⟩ := tr_cho h2
      refine ⟨_, rfl, p, _, dx, _, _, rfl, h1, T.c_Term, T.no_Term_tree, rfl, y, rfl, ⟨_, sq⟩, fun D hD => ?_⟩
      refine lc_it (walk_tup (xs := [v1, v2, v3, v4])) (fun i H' => ∃ ps : List Addr, H' D = some (.lst (ps.map V.ref)) ∧ Same H H' ∧ ps.length = i ∧ (∀ (j : Nat) (q : Addr) (k : Tr), ps[j]? = some q → [a1, b1, c1, e1][j]? = some k → TermAt K a.C_Term H' q k))
        ⟨[], upd_same, sNew hD, rfl, fun j q k h _ => by simp at h⟩ (fun _ _ _ ⟨_, _, sm, _⟩ => SqT.same sm sq) ?_ ?_
      · rintro i x H1 H1' hi ⟨ps, hA, sm, ln, al⟩ ⟨rfl, hx⟩
        obtain ⟨t, ht, hdt⟩ := get4 (K := K) (H := H) hx g1 g2 g3 g4
        have hk := kid_deep ht
        have ok := kid_ok ht h3.1
        have hi' : i < 4 := hi
        refine ⟨rfl, _, rfl, x, t, rfl, tr_same sm hdt, ok, by omega, by decide, fun H2 s2 => ?_⟩
        intro x2 dx2 n1 n2 ne
        refine make_term ok (by omega) n1 n2 ne fun H3 s3 tq => ⟨rfl, ?_⟩
        have sA : Same H1' H3 := s2.trans s3
        refine ⟨_, sA _ _ hA, by rw [List.length_map, ln]; exact Nat.lt_trans hi' (by decide), ps ++ [x2], by rw [upd_same, List.map_append]; rfl, sUpd hD (sm.trans sA), by rw [List.length_append, ln]; rfl, ?_⟩
        have up : ∀ {q' : Addr} {t' : Tr}, TermAt K a.C_Term H3 q' t' → TermAt K a.C_Term (upd H3 D (.lst (ps.map V.ref ++ [V.ref x2]))) q' t' := fun {q' t'} h => by
          obtain ⟨dz, uz, z1, z2, z3⟩ := h
          have hDl := sA _ _ hA
          exact ⟨dz, uz, by rw [upd_ne (ne_of z1 hDl (by intro z; cases z))]; exact z1, tr_tk (TK.lst hDl) t' z2, z3⟩
        intro j q' k' hj hk'
        by_cases hjl : j < ps.length
        · rw [List.getElem?_append_left hjl] at hj
          exact up ((al j q' k' hj hk').same sA)
        · have : j = ps.length := by
            have := (List.getElem?_eq_some_iff.mp hj).1
            rw [List.length_append, List.length_singleton] at this
            omega
          subst this
          rw [List.getElem?_append_right (Nat.le_refl _), Nat.sub_self] at hj
          cases hj
          rw [ln, ht] at hk'
          cases hk'
          exact up tq
      · rintro H1 ⟨ps, hA, sm, ln, al⟩
        exact k D ps H1 sm hD hA ln al
theorem fnOr {CX : CXT} {k : Nat} {f : Addr} {fd : FuncData} {ps : List Str} {sp sp' : Sp} (F : FnOk P w K mg base CX k f fd ps sp) (G : FnOk P w K mg base CX k f fd ps sp') : FnOk P w K mg base CX k f fd ps (fun vs H Q E => sp vs H Q E ∨ sp' vs H Q E) :=
  ⟨fun vs H Q E h => h.elim (F.len vs H Q E) (G.len vs H Q E), fun A outer s H args us vs Q E hr e0 bd rv h => h.elim (F.run A outer s H args us vs Q E hr e0 bd rv) (G.run A outer s H args us vs Q E hr e0 bd rv)⟩
theorem fnUp {CX : CXT} {j k : Nat} {f : Addr} {fd : FuncData} {ps : List Str} {sp : Sp} (F : FnOk P w K mg base CX j f fd ps sp) (h : j ≤ k) : FnOk P w K mg base CX k f fd ps sp :=
  ⟨F.len, fun A outer s H args us vs Q E hr => F.run A outer s H args us vs Q E (hr.mono h)⟩
def spTreesG (K : PySem.W.Frag) : Sp := fun vs H Q E => spTreeG K 1 vs H Q E ∨ spTreeG K 2 vs H Q E ∨ spTreeG K 3 vs H Q E
theorem ok_treesG (T : Tx P K mg a) : FnOk P w K mg base CX0 6 a.f__law_tree a.d__law_tree ["pool", "words", "digits", "deep"] (spTreesG K) :=
  fnOr (fnUp (ok_treeG T 1) (by decide)) (fnOr (fnUp (ok_treeG T 2) (by decide)) (ok_treeG T 3))
theorem treesG_of {r : Int} {l pw pd : Addr} {ws : List Str} {ds : List Int} {H : Hp} {Q : VK} {E : XK} (r0 : 0 ≤ r) (r1 : r < 3) (hP : PoolAt H l) (nw : pw ≠ l) (ndl : pd ≠ l) (hw : H pw = some (.lst (ws.map V.str))) (hd : H pd = some (.lst (ds.map V.int)))
    (w0 : ws ≠ []) (wl : ws.length < 1000) (dl : ds.length < 1000) (wW : ∀ y ∈ ws, Word y) (dD : ∀ y ∈ ds, 0 ≤ y ∧ y ≤ 9) (k : ∀ (v : V) (t : Tr) H', But l H H' → PoolAt H' l → Dp K H' v t.d → t.Ok → t.deep ≤ 3 → t.Of ws ds → Q v H') : spTreesG K [.ref l, .ref pw, .ref pd, .int (1 + r)] H Q E := by
  have : r = 0 ∨ r = 1 ∨ r = 2 := by omega
  rcases this with rfl | rfl | rfl
  · exact .inl ⟨l, pw, pd, ws, ds, rfl, hP, nw, ndl, hw, hd, w0, wl, dl, wW, dD, by decide, fun v t H' b p h ok d => k v t H' b p h ok (by omega)⟩
  · exact .inr (.inl ⟨l, pw, pd, ws, ds, rfl, hP, nw, ndl, hw, hd, w0, wl, dl, wW, dD, by decide, fun v t H' b p h ok d => k v t H' b p h ok (by omega)⟩)
  · exact .inr (.inr ⟨l, pw, pd, ws, ds, rfl, hP, nw, ndl, hw, hd, w0, wl, dl, wW, dD, by decide, fun v t H' b p h ok d => k v t H' b p h ok (by omega)⟩)
theorem trTy (T : Tx P K mg a) {H : Hp} {t : Tr} {x : V} (h : Dp K H x t.d) : ∃ ty, TyX K H x (.type ty) ∧ PySem.W.notFirst K a.C_Term (.type ty) = true ∧ PySem.W.kitOne K (.type ty) (.ref a.C_Term) = some false := by
  cases t with
  | con n =>
    obtain rfl := tr_con h
    exact ⟨"int", .base (.int n), T.nx_Term_int, T.kit_Term_int⟩
  | var w =>
    obtain rfl := tr_var h
    exact ⟨"str", .base (.str w), T.nf_Term, T.kit_Term_str⟩
  | cho a b c e =>
    obtain ⟨p, v1, v2, v3, v4, rfl, sq, _⟩ := tr_cho h
    exact ⟨"tuple", tyT sq, T.nx_Term_tuple, T.kit_Term_tuple⟩
def spLaw (K : PySem.W.Frag) : Sp := fun vs H Q _ => ∃ (s : Addr) (ns : List Int), vs = [.ref s] ∧ SqL K H s (ns.map V.int) ∧ (∀ z ∈ ns, Builtin.Int.intBits z ≤ 1048576) ∧ ∀ H', Q (.bl true) H'
theorem ok_law (T : Tx P K mg a) : FnG P w K mg base CX0 30 a.f_law a.d_law ["script"] (spLaw K) := by
  have Mp : FnOk P w K mg base CX0 1 a.f__law_pool a.d__law_pool ["script", "k"] (spPool K) := ok_pool T
  have Mk : FnOk P w K mg base CX0 1 a.f__law_take a.d__law_take ["pool", "bound"] spTake := ok_take T
  have Mw : FnOk P w K mg base CX0 3 a.f__law_words a.d__law_words ["pool", "bound"] (spWordsN K) := ok_wordsN T
  have Mt : FnOk P w K mg base CX0 6 a.f__law_tree a.d__law_tree ["pool", "words", "digits", "deep"] (spTreesG K) := ok_treesG T
  have Mi : FnOk P w K mg base (L2.CX P w) 7 a.f_Term___init__ a.d_Term___init__ ["self", "value"] (spInit K a.C_Term a.C_NoTerm) := ok_init T
  have Mx : FnOk P w K mg base CX0 4 a.f__law_tree_text a.d__law_tree_text ["tree"] (spText K 3) := ok_ltext T 3
  have Mo : FnOk P w K mg base CX0 10 a.f__law_told a.d__law_told ["term"] (spTold K a.C_Term) := ok_toldT T
  have Md : FnOk P w K mg base CX0 6 a.f__law_due a.d__law_due ["tree"] (spDueT K) := ok_dueT T
  have Ml : FnOk P w K mg base CX0 4 a.f__law_tree_leaves a.d__law_tree_leaves ["tree"] (spLeaves K 3) := ok_lleaves T 3
  have Mc : FnOk P w K mg base CX0 5 a.f_Term___contains__ a.d_Term___contains__ ["self", "value"] (spTIn K a.C_Term) := ok_tin T
  have Mq : FnOk P w K mg base CX0 1 a.f_Term___eq__ a.d_Term___eq__ ["self", "other"] (spEqX K a.C_Term) := ok_eqX T
  have Mv : FnOk P w K mg base CX0 5 a.f_Term_variables a.d_Term_variables ["self"] (spTVars K a.C_Term) := ok_tvars T
  have Mn : FnOk P w K mg base CX0 5 a.f_Term_constants a.d_Term_constants ["self"] (spTCons K a.C_Term) := ok_tcons T
  have Mr : FnOk P w K mg base CX0 9 a.f_Term_parts a.d_Term_parts ["self"] (spPartsN K a.C_Term) := ok_partsN T
  have isE : PySem.W.isFn K (.ref a.f_Term___eq__) = true := T.m_Term___eq__.fn
  have isC : PySem.W.isFn K (.ref a.f_Term___contains__) = true := T.m_Term___contains__.fn
  refine okG T.law.fn sc_law (fun vs H Q E h => ?_) (fun cdv A outer s H vs Q E hr gu h => ?_)
  · obtain ⟨l, ns, rfl, _⟩ := h
    rfl
  · obtain ⟨sa, ns, rfl, hs, hb, k⟩ := h
    have nd := sc_law.nd
    refine ⟨_, (pss_cons (ps_for (passes_of rfl) rfl (pi_range1 rfl T.bi.range (pa_cons (cb_max T.bi (pa_cons pe_int (pa_cons (cb_min T.bi (pa_cons pe_int (pa_cons (cb_len T.bi (pa_cons (pv 0) pa_nil)) pa_nil))) pa_nil))) pa_nil)) (pg_name (i := 1) nd rfl (Or.inl rfl))
        (pss_cons (ps_set (i := 2) nd rfl (Or.inr rfl) (pe_cf T._law_pool Mp (hr.mono (by decide)) (pa_cons (pv 0) (pa_cons (pv 1) pa_nil))))
        (pss_cons (ps_set (i := 3) nd rfl (Or.inr rfl) (pe_cf T._law_words Mw (hr.mono (by decide)) (pa_cons (pv 2) (pa_cons pe_int pa_nil))))
        (pss_cons (ps_setLc (i := 4) (own := [("turn", 13)]) (by rfl) nd rfl rfl (sw_true rfl rfl rfl (by decide +kernel)) (pi_range1 rfl T.bi.range (pa_cons pe_int pa_nil)) (blkOk_by (own := [("turn", 13)]) (N := ["script", "k", "pool", "words", "trees", "terms", "near", "tree", "one", "thing", "is_there", "far", "other", "turn"]) (sc := defScope s_law) (by decide +kernel)) (fun _ _ _ _ _ => (pg_name (i := 13) nd rfl (Or.inl rfl))) (fun _ _ _ _ _ => pts_nil) (fun _ _ _ _ _ => (pe_cf T._law_tree Mt (hr.mono (by decide)) (pa_cons (pv 2) (pa_cons (pv 3) (pa_cons (pe_lst (pa_cons pe_int (pa_cons pe_int (pa_cons pe_int (pa_cons pe_int pa_nil))))) (pa_cons (pe_op (op_addA (K := K)) pe_int (pe_cf T._law_take Mk (hr.mono (by decide)) (pa_cons (pv 2) (pa_cons pe_int pa_nil)))) pa_nil)))))))
        (pss_cons (ps_setLc (i := 5) (own := [("tree", 7)]) (by rfl) nd rfl rfl (sw_true rfl rfl rfl (by decide +kernel)) (pi_list (pv 4)) (blkOk_by (own := [("tree", 7)]) (N := ["script", "k", "pool", "words", "trees", "terms", "near", "tree", "one", "thing", "is_there", "far", "other", "turn"]) (sc := defScope s_law) (by decide +kernel)) (fun _ _ _ _ _ => (pg_name (i := 7) nd rfl (Or.inl rfl))) (fun _ _ _ _ _ => pts_nil) (fun _ _ _ _ _ => (pe_make T.mk_Term Mi (hr.mono (by decide)) rfl T.g_Term T.b_Term___init__ .nil passL (pa_cons (pe_cf T._law_tree_text Mx (hr.mono (by decide)) (pa_cons (pv 7) pa_nil)) pa_nil))))
        (pss_one (ps_for (passes_of rfl) rfl (pi_enum rfl T.bi.enumerate (pa_cons (pv 4) pa_nil)) (pg_tup rfl (pgs_cons (pg_name (i := 6) nd rfl (Or.inl rfl)) (pgs_cons (pg_name (i := 7) nd rfl (Or.inl rfl)) pgs_nil)))
          (pss_cons (ps_set (i := 8) nd rfl (Or.inl rfl) (pe_ix ix_A (pv 5) (pv 6) (fun _ _ => rfl)))
          (pss_cons (ps_if (pt_cmpR (op_neX hr) (pe_cf T._law_told Mo (hr.mono (by decide)) (pa_cons (pv 8) pa_nil)) (pe_cf T._law_due Md (hr.mono (by decide)) (pa_cons (pv 7) pa_nil)) (nomark _)) (pss_one (ps_ret pe_bl)) pss_nil)
          (pss_cons (ps_for (passes_of rfl) rfl (pi_list (pe_op op_addA (pv 3) (pe_lst (pa_cons pe_str (pa_cons pe_int (pa_cons pe_int (pa_cons pe_int (pa_cons pe_int (pa_cons pe_int (pa_cons pe_bl (pa_cons pe_non (pa_cons pe_str (pa_cons (pe_tup pa_nil) (pa_cons (pe_lst (pa_cons pe_int pa_nil)) pa_nil)))))))))))))) (pg_name (i := 9) nd rfl (Or.inl rfl))
            (pss_cons (ps_set (i := 10) nd rfl (Or.inl rfl) (pe_and (pe_not (cb_isiA (K := K) T.bi (pa_cons (pv 9) (pa_cons (gl_ty rfl T.bi.bool PyProof.Rows.boot_bool) pa_nil)))) (pe_one (pe_cmpR (op_inX (K := K) hr) (pv 9) (pe_cf T._law_tree_leaves Ml (hr.mono (by decide)) (pa_cons (pv 7) pa_nil)) rfl))))
            (pss_one (ps_if (pt_cmpR (op_neX hr) (pe_cmpR (op_inO (K := K) Mc T.m_Term___contains__.at_ isC T.b_Term___contains__ pass0 (hr.mono (by decide))) (pv 9) (pv 8) rfl) (pv 10) (nomark _)) (pss_one (ps_ret pe_bl)) pss_nil))))
          (pss_cons (ps_for (passes_of rfl) rfl (pi_enum rfl T.bi.enumerate (pa_cons (pv 4) pa_nil)) (pg_tup rfl (pgs_cons (pg_name (i := 11) nd rfl (Or.inl rfl)) (pgs_cons (pg_name (i := 12) nd rfl (Or.inl rfl)) pgs_nil)))
            (pss_one (ps_if (pt_cmpR (op_neX hr) (pe_cmpR (op_eqY (K := K) Mq T.m_Term___eq__.at_ isE T.b_Term___eq__ pass0 (hr.mono (by decide))) (pv 8) (pe_ix ix_A (pv 5) (pv 11) (fun _ _ => rfl)) (nomark _)) (pe_cmpR (op_eqX hr) (pv 7) (pv 12) (nomark _)) (nomark _)) (pss_one (ps_ret pe_bl)) pss_nil)))
          (pss_cons (ps_if (PW.pt (pw_or (pt_cmpR (op_eqY (K := K) Mq T.m_Term___eq__.at_ isE T.b_Term___eq__ pass0 (hr.mono (by decide))) (pv 8) (pe_cf T._law_tree_text Mx (hr.mono (by decide)) (pa_cons (pv 7) pa_nil)) (nomark _)) (pw_or (pt_cmpR (op_eqY (K := K) Mq T.m_Term___eq__.at_ isE T.b_Term___eq__ pass0 (hr.mono (by decide))) (pv 8) (pv 7) (nomark _)) (pw_or1 (pt_cmpR (op_neOwn Mq T.ne_Term T.m_Term___eq__.at_ T.mo_Term isE T.b_Term___eq__ pass0 (hr.mono (by decide))) (pe_make T.mk_Term Mi (hr.mono (by decide)) rfl T.g_Term T.b_Term___init__ .nil passL (pa_cons (pv 8) pa_nil)) (pv 8) (nomark _)))))) (pss_one (ps_ret pe_bl)) pss_nil)
          (pss_cons (ps_if (PW.pt (pw_and (pt_val (cb_isiA (K := K) T.bi (pa_cons (pv 7) (pa_cons (gl_ty rfl T.bi.int PyProof.Rows.boot_int) pa_nil)))) (pw_and1 (pt_cmpR (op_neOwn Mq T.ne_Term T.m_Term___eq__.at_ T.mo_Term isE T.b_Term___eq__ pass0 (hr.mono (by decide))) (pe_make T.mk_Term Mi (hr.mono (by decide)) rfl T.g_Term T.b_Term___init__ .nil passL (pa_cons (pv 7) pa_nil)) (pv 8) (nomark _))))) (pss_one (ps_ret pe_bl)) pss_nil)
          (pss_cons (ps_expr (pe_bm PySem.F.plainAttrs_list PySem.F.slot_list_append PySem.F.type_list_append mt_append (pe_meth0 (pv 8) T.c_Term T.m_Term_variables Mv (hr.mono (by decide)) T.b_Term_variables .nil pass0) (pa_cons pe_str pa_nil)))
          (pss_cons (ps_expr (pe_bm PySem.F.plainAttrs_list PySem.F.slot_list_append PySem.F.type_list_append mt_append (pe_meth0 (pv 8) T.c_Term T.m_Term_parts Mr (hr.mono (by decide)) T.b_Term_parts .nil pass0) (pa_cons pe_str pa_nil)))
          (pss_cons (ps_expr (pe_bm PySem.F.plainAttrs_list PySem.F.slot_list_append PySem.F.type_list_append mt_append (pe_meth0 (pv 8) T.c_Term T.m_Term_constants Mn (hr.mono (by decide)) T.b_Term_constants .nil pass0) (pa_cons pe_int pa_nil)))
          (pss_one (ps_if (pt_cmpR (op_neX hr) (pe_cf T._law_told Mo (hr.mono (by decide)) (pa_cons (pv 8) pa_nil)) (pe_cf T._law_due Md (hr.mono (by decide)) (pa_cons (pv 7) pa_nil)) (nomark _)) (pss_one (ps_ret pe_bl)) pss_nil))))))))))))))))))
      (pss_one (ps_ret pe_bl))), ?_⟩
    refine ⟨_, rfl, lenL hs (min2 ?_)⟩
    refine max2 ?_
    have hm : ∀ n : Nat, (if (if ((n : Nat) : Int) < 10 then ((n : Nat) : Int) else 10) > 1 then (if ((n : Nat) : Int) < 10 then ((n : Nat) : Int) else 10) else 1) ≤ 10 ∧ (0 : Int) ≤ (if (if ((n : Nat) : Int) < 10 then ((n : Nat) : Int) else 10) > 1 then (if ((n : Nat) : Int) < 10 then ((n : Nat) : Int) else 10) else 1) := fun n => by
      split <;> (try split) <;> omega
    obtain ⟨m1, m2⟩ := hm (ns.map V.int).length
    refine ⟨_, rfl, by omega, by omega, ?_⟩
    refine for_it (walk_range (lo := 0)) (fun n σ H' => ∃ o1 o2 o3 o4 o5 o6 o7 o8 o9 o10 o11 o12 o13 : Option V, σ = [some (.ref sa), o1, o2, o3, o4, o5, o6, o7, o8, o9, o10, o11, o12, o13] ∧ Same H H') ⟨none, none, none, none, none, none, none, none, none, none, none, none, none, rfl, Same.refl _⟩ (fun _ _ _ _ _ => trivial) ?_ ?_
    rotate_left
    · rintro σ H1 ⟨o1, o2, o3, o4, o5, o6, o7, o8, o9, o10, o11, o12, o13, rfl, sm⟩
      exact k H1
    rintro i x σ H1 H1' hi ⟨o1, o2, o3, o4, o5, o6, o7, o8, o9, o10, o11, o12, o13, rfl, sm1⟩ ⟨rfl, rfl⟩
    have hi10 : i < 10 := by omega
    refine ⟨_, rfl, _, rfl, sa, ns, i, by show [V.ref sa, .int (0 + (i : Int))] = _; rw [Int.zero_add], SqL.same sm1 hs, hb, by omega, fun l H2 s2 nl P2 => ?_⟩
    refine ⟨_, rfl, l, 4, rfl, by decide, P2, fun pw ws H4 b4 P4 nwl npw hw wl4 wnd wsh => ?_⟩
    have ww : ∀ y ∈ ws, Word y := fun y hy => (wsh y hy).word
    have w0 : ws ≠ [] := fun e => by rw [e] at wl4; cases wl4
    refine ⟨8, rfl, by decide, by decide, fun D nD => ?_⟩
    have nDl := P4.ne nD
    refine lc_it (walk_range (lo := 0) (n := (8 : Int).toNat)) (fun j H' => PoolAt H' l ∧ But l H4 H' ∧ ∃ (us : List V) (ts : List Tr), H' D = some (.lst us) ∧ DpAll K H' us (ts.map Tr.d) ∧ ts.length = j ∧ ∀ t ∈ ts, t.Ok ∧ t.deep ≤ 3)
      ⟨P4.upd nDl, But.fr2 (But.refl _ _) nDl.symm nD (But.refl _ _), [], [], upd_same, .nil, rfl, fun y hy => nomatch hy⟩ (fun _ _ _ _ => trivial) ?_ ?_
    · rintro j x Ha Ha' hj ⟨Pz, bz, us, ts, hA, hD, lt, at_⟩ ⟨rfl, rfl⟩
      have hj' : j < 8 := hj
      refine ⟨rfl, _, rfl, _, rfl, by show 4 ≤ sizeLine; decide, fun pd npd => ?_⟩
      have sd := sNew (o := .lst [V.int 0, .int 1, .int 7, .int 9]) npd
      have Pd : PoolAt (upd Ha' pd (.lst [V.int 0, .int 1, .int 7, .int 9])) l := Pz.same sd
      have ndl : pd ≠ l := (Pz.ne npd).symm
      refine ⟨_, rfl, l, 3, rfl, Pd, by decide, by decide, fun r Hb bb Pb r0 r1 => addI ?_⟩
      have bA : But l Ha' Hb := (But.same sd l).trans bb
      refine treesG_of (ws := ws) (ds := [0, 1, 7, 9]) r0 r1 Pb nwl ndl (bA _ _ nwl (bz _ _ nwl hw)) (bb _ _ ndl upd_same) w0 (by omega) (by decide) ww (by decide) fun v t Hc bc Pc hv ok hd _ => ?_
      have hA3 := (bA.trans bc) _ _ nDl.symm hA
      have ul : us.length < sizeLine := by
        have := DpAll.length hD
        rw [List.length_map] at this
        have := sl10
        omega
      have tkk : TK Hc (upd Hc D (.lst (us ++ [v]))) := TK.lst hA3
      refine ⟨us, hA3, ul, Pc.upd nDl, But.fr2 (But.refl _ _) nDl.symm nD (bz.trans (bA.trans bc)), us ++ [v], ts ++ [t], upd_same, ?_, by rw [List.length_append, lt]; rfl, snoc_all at_ ⟨ok, hd⟩⟩
      exact dpAll_tk (ts := ts ++ [t]) tkk (by rw [List.map_append]; exact DpAll.app ((bA.trans bc).trs Pz hD) (.cons hv .nil))
    rintro H5 ⟨P5, b5, us, ts, hD, dD, lt, at_⟩
    have lt8 : ts.length = 8 := lt
    have lu : us.length = 8 := by
      have := DpAll.length dD
      rw [List.length_map] at this
      omega
    have hw5 := b5 _ _ nwl hw
    have sm5 : Same H H5 := sm1.trans (But.fresh nl s2 (b4.trans b5))
    refine ⟨_, rfl, D, rfl, ⟨_, .inl (.inl hD)⟩, fun G nG => ?_⟩
    refine lc_it (walk_list (xs := us)) (fun i H' => ∃ qs : List Addr, H' G = some (.lst (qs.map V.ref)) ∧ Same H5 H' ∧ qs.length = i ∧ ∀ (j : Nat) (q : Addr) (t : Tr), qs[j]? = some q → ts[j]? = some t → TermAt K a.C_Term H' q t)
      ⟨[], upd_same, sNew nG, rfl, fun j q t h _ => by simp at h⟩ (fun _ _ _ ⟨_, _, sm, _⟩ => .inl (.inl (sm _ _ hD))) ?_ ?_
    · rintro m x H7 H7' hm7 ⟨qs, gG, s7, ln, dd⟩ ⟨rfl, hx⟩
      obtain ⟨t, ht, hdt⟩ := dpAll_at dD hx
      have atm := at_ t (List.mem_of_getElem? ht)
      refine ⟨rfl, _, rfl, x, t, rfl, tr_same s7 hdt, atm.1, atm.2, by decide, fun H8 s8 => ?_⟩
      intro x2 dx2 n1 n2 ne
      refine make_term atm.1 atm.2 n1 n2 ne fun H9 s9 tq => ⟨rfl, ?_⟩
      have sA := s8.trans s9
      have gG9 := sA _ _ gG
      refine ⟨_, gG9, by rw [List.length_map, ln]; have := sl10; have : m < us.length := hm7; omega, qs ++ [x2], by rw [upd_same, List.map_append]; rfl, sUpd nG (s7.trans sA), by rw [List.length_append, ln]; rfl, ?_⟩
      have up : ∀ {q' : Addr} {t' : Tr}, TermAt K a.C_Term H9 q' t' → TermAt K a.C_Term (upd H9 G (.lst (qs.map V.ref ++ [V.ref x2]))) q' t' := fun {q' t'} h => by
        obtain ⟨dz, uz, z1, z2, z3⟩ := h
        exact ⟨dz, uz, by rw [upd_ne (ne_of z1 gG9 (by intro z; cases z))]; exact z1, tr_tk (TK.lst gG9) t' z2, z3⟩
      intro j q' t' hj hk'
      by_cases hjl : j < qs.length
      · rw [List.getElem?_append_left hjl] at hj
        exact up ((dd j q' t' hj hk').same sA)
      · have : j = qs.length := by
          have := (List.getElem?_eq_some_iff.mp hj).1
          rw [List.length_append, List.length_singleton] at this
          omega
        subst this
        rw [List.getElem?_append_right (Nat.le_refl _), Nat.sub_self] at hj
        cases hj
        rw [ln, ht] at hk'
        cases hk'
        exact up tq
    rintro H6 ⟨qs, gG, s6, ln, dd⟩
    have hD6 := s6 _ _ hD
    have hw6 := s6 _ _ hw5
    have lq : qs.length = us.length := ln
    refine ⟨_, rfl, D, _, rfl, .inl (.inl hD6), ?_⟩
    refine for_it (walk_enum (xs := us)) (fun n σ H' => ∃ o6 o7 o8 o9 o10 o11 o12 o13 : Option V, σ = [some (.ref sa), some (.int (0 + (i : Int))), some (.ref l), some (.ref pw), some (.ref D), some (.ref G), o6, o7, o8, o9, o10, o11, o12, o13] ∧ Same H6 H')
      ⟨_, _, _, _, _, _, _, _, rfl, Same.refl _⟩ (fun _ _ _ _ ⟨_, _, _, _, _, _, _, _, _, sm⟩ => .inl (.inl (sm _ _ hD6))) ?_ ?_
    rotate_left
    · rintro σ H8 ⟨o6, o7, o8, o9, o10, o11, o12, o13, rfl, sm⟩
      exact ⟨_, _, _, _, _, _, _, _, _, _, _, _, _, rfl, sm5.trans (s6.trans sm)⟩
    rintro n v σ Ha Ha' hn ⟨o6, o7, o8, o9, o10, o11, o12, o13, rfl, sma⟩ ⟨T0, x0, x, rfl, nT, rfl, hx0, hxn⟩
    cases hx0
    obtain ⟨t, ht, hdt5⟩ := dpAll_at dD hxn
    obtain ⟨ok, hd⟩ := at_ t (List.mem_of_getElem? ht)
    have hdt := tr_same s6 hdt5
    obtain ⟨q, hq⟩ : ∃ q, qs[n]? = some q := by
      have : n < qs.length := by rw [lq]; exact (List.getElem?_eq_some_iff.mp hxn).1
      exact ⟨_, List.getElem?_eq_getElem this⟩
    have tq := dd n q t hq ht
    have j0 := tq
    obtain ⟨dx, u, hqi, _⟩ := j0
    have sb := sma.trans (sNew (o := .tup [V.int (n : Nat), x]) nT)
    refine ⟨T0, _, rfl, .inl (.inl upd_same), rfl, _, _, rfl, _, _, rfl, rfl, ?_⟩
    generalize upd Ha T0 (.tup [V.int (n : Nat), x]) = Hb at sb
    refine ⟨_, rfl, _, rfl, ixL (i := n) (.inl (.inl (sb _ _ gG))) (by rw [List.getElem?_map, hq]; rfl) ?_⟩
    refine ⟨_, rfl, q, t, rfl, tq.same sb, hd, fun r1 Hc sc dp1 => ?_⟩
    have sbc := sb.trans sc
    refine ⟨_, rfl, x, t, rfl, tr_same sbc hdt, ok, hd, fun r2 Hd sd dp2 => ?_⟩
    refine neDself (dp_same sd dp1) dp2 (told_shaped ok) ?_
    refine ⟨_, rfl, ?_⟩
    have s7 := sbc.trans sd
    refine ⟨_, rfl, by show 0 ≤ sizeLine; decide, fun pt npt => ?_⟩
    refine ⟨by show 1 ≤ sizeLine; decide, fun pz npz => ?_⟩
    refine ⟨by show 11 ≤ sizeLine; decide, fun pm npm => ?_⟩
    have se := (sNew (o := .tup []) npt).trans (sNew (o := .lst [V.int 0]) npz)
    have sf := sNew (o := .lst [V.str "zzzzzzzz", .int 0, .int 1, .int 7, .int 9, .int 5, .bl true, .non, .str "", .ref pt, .ref pz]) npm
    refine addL (sf _ _ (se _ _ (s7 _ _ hw6))) upd_same (by rw [List.length_map, wl4]; show 4 + 11 ≤ sizeLine; decide) fun pA HA nA sA hA => ?_
    have eT : HA pt = some (.tup []) := sA _ _ (sf _ _ (sNew npz _ _ upd_same))
    have eZ : HA pz = some (.lst [V.int 0]) := sA _ _ (sf _ _ upd_same)
    have s8 := ((s7.trans se).trans sf).trans sA
    refine ⟨pA, rfl, ⟨_, .inl (.inl hA)⟩, ?_⟩
    have all := thgs (K := K) (H := HA) ww eT eZ
    have lvl := lv_leaf ok
    have l16 := lv_16 hd
    generalize ws.map V.str ++ [V.str "zzzzzzzz", .int 0, .int 1, .int 7, .int 9, .int 5, .bl true, .non, .str "", .ref pt, .ref pz] = xs at hA all
    refine for_it (walk_list (xs := xs)) (fun m σ H' => ∃ o9 o10 : Option V, σ = [some (.ref sa), some (.int (0 + (i : Int))), some (.ref l), some (.ref pw), some (.ref D), some (.ref G), some (.int (n : Nat)), some x, some (.ref q), o9, o10, o11, o12, o13] ∧ Same HA H')
      ⟨_, _, rfl, Same.refl _⟩ (fun _ _ _ _ ⟨_, _, _, sm⟩ => .inl (.inl (sm _ _ hA))) ?_ ?_
    · rintro m y σ Hm Hm' hm' ⟨o9', o10', rfl, smm⟩ ⟨rfl, hy⟩
      have s9 := s8.trans smm
      have fin : ∀ {b : Bool} {Hn : Hp}, Same Hm' Hn → (sp : (∀ Q : VK, (∀ H', Same Hn H' → Q (.bl b) H') → spTIn K a.C_Term [.ref q, y] Hn Q L2.E0)) → (tIfS (tTest (tOp (rNeX K) (tOp (rInO a.C_Term (spTIn K a.C_Term) E0 false) (tVar 9) (tVar 8)) (tVar 10))) (tRet (tC (.bl false))) tNext)
          { nx := fun σ' H' => ∃ o9 o10 : Option V, σ' = [some (.ref sa), some (.int (0 + (i : Int))), some (.ref l), some (.ref pw), some (.ref D), some (.ref G), some (.int (n : Nat)), some x, some (.ref q), o9, o10, o11, o12, o13] ∧ Same HA H', rt := Q } [some (.ref sa), some (.int (0 + (i : Int))), some (.ref l), some (.ref pw), some (.ref D), some (.ref G), some (.int (n : Nat)), some x, some (.ref q), some y, some (.bl b), o11, o12, o13] Hn := by
        intro b Hn sn sp
        refine ⟨_, rfl, _, rfl, ⟨q, dx, _, rfl, (s9.trans sn) _ _ hqi, sp _ fun H' s' => ⟨b, rfl, ?_⟩⟩⟩
        refine ⟨_, rfl, ?_⟩
        refine neB ?_
        rw [show (b != false) = b by cases b <;> rfl, decide_eq_true rfl]
        refine ⟨_, rfl, ?_⟩
        exact ⟨_, _, rfl, smm.trans (sn.trans s')⟩
      have tq9 := tq.same s9
      have hdt9 := tr_same s9 hdt
      rcases all y (List.mem_of_getElem? hy) with ⟨b', rfl⟩ | ((⟨z, rfl, hz⟩ | ⟨n', rfl⟩) | ⟨d, ty, hyd, hys, hty, kb, ks, ki, e1, e2⟩)
      · refine ⟨_, rfl, ⟨isiTy (.base (.bl b')) k_bb' ?_⟩⟩
        refine ⟨_, rfl, _, rfl, ?_⟩
        exact fin (b := false) (Same.refl _) fun Q k => ⟨q, t, _, rfl, tq9, hd, .inr ⟨"bool", true, true, .base (.bl b'), by decide +kernel, by decide +kernel, k_bb', rfl, k _ (Same.refl _)⟩⟩
      · refine ⟨_, rfl, ⟨isiTy (.base (.str z)) (by decide +kernel : kitB "str" "bool" = some false) ?_⟩⟩
        refine ⟨_, rfl, _, rfl, ?_⟩
        refine ⟨_, rfl, _, rfl, x, t, rfl, hdt9, hd, by omega, fun L HL sL nL hL => ?_⟩
        refine ⟨⟨.str z, t.lv.map vD, .str z, .lst (.inl (.inl hL)) (dp_lv lvl), by unfold SeqAt.shaped; simp [PyData.canLay0, PyData.depth, hz], lv_shaped lvl, ?_⟩⟩
        have ea : (t.lv.map vD).any (fun y => PyData.eqv y (.str z)) = t.at (.str z) := any_lv (x := .str z) (.inl ⟨z, rfl⟩) lvl
        rw [ea]
        exact fin (b := t.at (.str z)) sL fun Q k => ⟨q, t, _, rfl, tq9.same sL, hd, .inl ⟨.inl ⟨z, rfl⟩, k⟩⟩
      · refine ⟨_, rfl, ⟨isiTy (.base (.int n')) k_ib ?_⟩⟩
        refine ⟨_, rfl, _, rfl, ?_⟩
        refine ⟨_, rfl, _, rfl, x, t, rfl, hdt9, hd, by omega, fun L HL sL nL hL => ?_⟩
        refine ⟨⟨.int n', t.lv.map vD, .int n', .lst (.inl (.inl hL)) (dp_lv lvl), by unfold SeqAt.shaped; simp [PyData.canLay0, PyData.depth], lv_shaped lvl, ?_⟩⟩
        have ea : (t.lv.map vD).any (fun y => PyData.eqv y (.int n')) = t.at (.int n') := any_lv (x := .int n') (.inr ⟨n', rfl⟩) lvl
        rw [ea]
        exact fin (b := t.at (.int n')) sL fun Q k => ⟨q, t, _, rfl, tq9.same sL, hd, .inl ⟨.inr ⟨n', rfl⟩, k⟩⟩
      · have hty' := tyX_same smm hty
        refine ⟨_, rfl, ⟨isiTy hty' kb ?_⟩⟩
        refine ⟨_, rfl, _, rfl, ?_⟩
        refine ⟨_, rfl, _, rfl, x, t, rfl, hdt9, hd, by omega, fun L HL sL nL hL => ?_⟩
        refine ⟨⟨d, t.lv.map vD, dp_same (smm.trans sL) hyd, .lst (.inl (.inl hL)) (dp_lv lvl), hys, lv_shaped lvl, ?_⟩⟩
        rw [any_no e1 e2 lvl]
        exact fin (b := false) sL fun Q k => ⟨q, t, _, rfl, tq9.same sL, hd, .inr ⟨ty, false, false, tyX_same sL hty', ks, ki, kb, rfl, k _ (Same.refl _)⟩⟩
    rintro σ He ⟨o9', o10', rfl, sme⟩
    have s9 := s8.trans sme
    refine ⟨_, rfl, D, _, rfl, .inl (.inl (s9 _ _ hD6)), ?_⟩
    refine for_it (walk_enum (xs := us)) (fun m σ H' => ∃ o11 o12 : Option V, σ = [some (.ref sa), some (.int (0 + (i : Int))), some (.ref l), some (.ref pw), some (.ref D), some (.ref G), some (.int (n : Nat)), some x, some (.ref q), o9', o10', o11, o12, o13] ∧ Same He H')
      ⟨_, _, rfl, Same.refl _⟩ (fun _ _ _ _ ⟨_, _, _, sm⟩ => .inl (.inl (sm _ _ (s9 _ _ hD6)))) ?_ ?_
    · rintro m y σ Hm Hm' hm' ⟨o11', o12', rfl, smm⟩ ⟨T1, y0, y1, rfl, nT1, rfl, hy0, hyn⟩
      cases hy0
      obtain ⟨t', ht', hdt5'⟩ := dpAll_at dD hyn
      obtain ⟨ok', hd'⟩ := at_ t' (List.mem_of_getElem? ht')
      obtain ⟨q', hq'⟩ : ∃ q, qs[m]? = some q := by
        have : m < qs.length := by rw [lq]; exact (List.getElem?_eq_some_iff.mp hyn).1
        exact ⟨_, List.getElem?_eq_getElem this⟩
      have tq' := dd m q' t' hq' ht'
      have j1 := tq'
      obtain ⟨dx', u', hqi', _⟩ := j1
      have sx := smm.trans (sNew (o := .tup [V.int (m : Nat), y1]) nT1)
      refine ⟨T1, _, rfl, .inl (.inl upd_same), rfl, _, _, rfl, _, _, rfl, rfl, ?_⟩
      generalize upd Hm T1 (.tup [V.int (m : Nat), y1]) = Hx at sx
      have sX := s9.trans sx
      refine ⟨_, rfl, _, rfl, _, rfl, ixL (i := m) (.inl (.inl (sX _ _ gG))) (by rw [List.getElem?_map, hq']; rfl) ?_⟩
      refine ⟨q, dx, _, _, rfl, sX _ _ hqi, tyTerm T (sX _ _ hqi'), by simp [PySem.W.notFirst], q, _, t, rfl, tq.same sX, .inl ⟨q', t', rfl, tq'.same sX, _, rfl, ?_⟩⟩
      refine ⟨_, rfl, _, rfl, eqT (tr_same sX hdt) (tr_same (s6.trans sX) hdt5') ⟨ok, by omega⟩ ⟨ok', by omega⟩ ?_⟩
      refine neB ?_
      rw [decide_eq_true rfl]
      refine ⟨_, rfl, ?_⟩
      exact ⟨_, _, rfl, sx⟩
    rintro σ Hf ⟨o11', o12', rfl, smf⟩
    have s10 := s9.trans smf
    have tq10 := tq.same s10
    have hdt10 := tr_same s10 hdt
    refine ⟨_, rfl, _, rfl, x, t, rfl, hdt10, ok, hd, by decide, fun Hg sg => ?_⟩
    have s11 := s10.trans sg
    refine ⟨q, dx, _, .type "str", rfl, s11 _ _ hqi, .base (.str _), T.nf_Term, q, _, t, rfl, tq.same s11, .inr ⟨"str", .base (.str _), T.kit_Term_str, _, rfl, ?_⟩⟩
    refine ⟨_, rfl, ?_⟩
    obtain ⟨ty, hty, nft, kitt⟩ := trTy T (tr_same s11 hdt)
    refine ⟨_, rfl, _, rfl, ⟨q, dx, _, .type ty, rfl, s11 _ _ hqi, hty, nft, q, _, t, rfl, tq.same s11, .inr ⟨ty, hty, kitt, _, rfl, ?_⟩⟩⟩
    refine ⟨_, rfl, ?_⟩
    refine ⟨_, rfl, fun o d n1 n2 ne => ?_⟩
    have b4 : Same Hg (upd (upd Hg d (.own o)) o (.ins a.C_Term d [])) := fun c u hc => by
      rw [upd_ne (ne_of_none hc n1), upd_ne (ne_of_none hc n2)]
      exact hc
    refine ⟨o, d, _, some t, rfl, upd_same, po_same b4 (.own (tq.same s11)), fun t' v' H5 e but hv' dp' => ⟨rfl, ?_⟩, fun e => nomatch e⟩
    cases e
    have s5 : Same Hg H5 := fun c u hc => but c u (ne_of_none hc n1) (b4 c u hc)
    have tm : TermAt K a.C_Term H5 o t := ⟨d, v', hv', dp', ok, by omega⟩
    have s12 := s11.trans s5
    refine ⟨_, rfl, o, q, _, _, _, _, rfl, rfl, hv', s12 _ _ hqi, o, _, t, rfl, tm, .inl ⟨q, t, rfl, tq.same s12, _, rfl, ?_⟩⟩
    rw [decide_eq_true rfl]
    refine ⟨_, rfl, ?_⟩
    have ns16 := ns_len t
    have ws16 := ws_len t
    have la : (ascS t.ws).length ≤ t.ws.length := Ord.len_asc
    have lb : (ascI t.ns).length ≤ t.ns.length := Ord.len_asc
    have k4 : t.kids.length ≤ 4 := by
      cases t with
      | con => exact Nat.zero_le _
      | var => exact Nat.zero_le _
      | cho => exact Nat.le_refl 4
    have sl := sl1k
    clear tm hv' dp' but b4 s5
    cases t with
    | con c0 =>
      obtain rfl := tr_con hdt
      refine ⟨_, rfl, ⟨isiTy (.base (.int c0)) k_ii ?_⟩⟩
      refine ⟨_, rfl, ?_⟩
      refine ⟨_, rfl, fun o d n1 n2 ne => ?_⟩
      have b4 : Same H5 (upd (upd H5 d (.own o)) o (.ins a.C_Term d [])) := fun c u hc => by
        rw [upd_ne (ne_of_none hc n1), upd_ne (ne_of_none hc n2)]
        exact hc
      have po : PO K a.C_Term (upd (upd H5 d (.own o)) o (.ins a.C_Term d [])) (.int c0) (some (.con c0)) := by
        have e := PO.int (K := K) (C := a.C_Term) (H := upd (upd H5 d (.own o)) o (.ins a.C_Term d [])) c0
        rw [if_pos (show 0 ≤ c0 ∧ c0 ≤ 9 from ok)] at e
        exact e
      refine ⟨o, d, _, some (.con c0), rfl, upd_same, po, fun t' v' H7 e but hv' dp' => ⟨rfl, ?_⟩, fun e => nomatch e⟩
      cases e
      have s5 : Same H5 H7 := fun c u hc => but c u (ne_of_none hc n1) (b4 c u hc)
      have tm : TermAt K a.C_Term H7 o (.con c0) := ⟨d, v', hv', dp', ok, by show 1 ≤ 60; decide⟩
      have s13 := s12.trans s5
      refine ⟨_, rfl, o, q, _, _, _, _, rfl, rfl, hv', s13 _ _ hqi, o, _, (.con c0), rfl, tm, .inl ⟨q, (.con c0), rfl, tq.same s13, _, rfl, ?_⟩⟩
      rw [decide_eq_true rfl]
      refine ⟨_, rfl, ?_⟩
      refine ⟨_, rfl, q, dx, _, rfl, s13 _ _ hqi, lk1, q, .con c0, rfl, tq.same s13, hd, fun L1 Hi si nL1 hL1 => ?_⟩
      refine ⟨.inl ⟨rfl, _, .inl (.inl hL1)⟩, L1, _, _, rfl, rfl, hL1, by rw [List.length_map]; omega, ?_⟩
      have sj := s13.trans (sUpd (o := .lst ((ascS (Tr.con c0).ws).map V.str ++ [V.str "a"])) nL1 si)
      generalize upd Hi L1 (.lst ((ascS (Tr.con c0).ws).map V.str ++ [V.str "a"])) = Hj at sj
      refine ⟨_, rfl, q, dx, _, rfl, sj _ _ hqi, lk1, q, .con c0, rfl, tq.same sj, hd, fun L2 ps Hk sk nL2 hL2 lps _ => ?_⟩
      refine ⟨.inl ⟨rfl, _, .inl (.inl hL2)⟩, L2, _, _, rfl, rfl, hL2, by rw [List.length_map]; omega, ?_⟩
      have sm := sj.trans (sUpd (o := .lst (ps.map V.ref ++ [V.str "a"])) nL2 sk)
      generalize upd Hk L2 (.lst (ps.map V.ref ++ [V.str "a"])) = Hm at sm
      refine ⟨_, rfl, q, dx, _, rfl, sm _ _ hqi, lk1, q, .con c0, rfl, tq.same sm, hd, fun L3 Hp sp nL3 hL3 => ?_⟩
      refine ⟨.inl ⟨rfl, _, .inl (.inl hL3)⟩, L3, _, _, rfl, rfl, hL3, by rw [List.length_map]; omega, ?_⟩
      have sr := sm.trans (sUpd (o := .lst ((ascI (Tr.con c0).ns).map V.int ++ [V.int 0])) nL3 sp)
      generalize upd Hp L3 (.lst ((ascI (Tr.con c0).ns).map V.int ++ [V.int 0])) = Hr at sr
      refine ⟨_, rfl, q, .con c0, rfl, tq.same sr, hd, fun r3 Hs ss dp3 => ?_⟩
      have st := sr.trans ss
      refine ⟨_, rfl, _, .con c0, rfl, tr_same st hdt, ok, hd, fun r4 Ht su dp4 => ?_⟩
      refine neDself (dp_same su dp3) dp4 (told_shaped ok) ?_
      refine ⟨_, rfl, ?_⟩
      exact ⟨_, _, _, _, _, _, _, _, rfl, st.trans su⟩
    | var c0 =>
      obtain rfl := tr_var hdt
      refine ⟨_, rfl, ⟨isiTy (.base (.str c0)) k_si ?_⟩⟩
      refine ⟨_, rfl, ?_⟩
      refine ⟨_, rfl, q, dx, _, rfl, s12 _ _ hqi, lk1, q, .var c0, rfl, tq.same s12, hd, fun L1 Hi si nL1 hL1 => ?_⟩
      refine ⟨.inl ⟨rfl, _, .inl (.inl hL1)⟩, L1, _, _, rfl, rfl, hL1, by rw [List.length_map]; omega, ?_⟩
      have sj := s12.trans (sUpd (o := .lst ((ascS (Tr.var c0).ws).map V.str ++ [V.str "a"])) nL1 si)
      generalize upd Hi L1 (.lst ((ascS (Tr.var c0).ws).map V.str ++ [V.str "a"])) = Hj at sj
      refine ⟨_, rfl, q, dx, _, rfl, sj _ _ hqi, lk1, q, .var c0, rfl, tq.same sj, hd, fun L2 ps Hk sk nL2 hL2 lps _ => ?_⟩
      refine ⟨.inl ⟨rfl, _, .inl (.inl hL2)⟩, L2, _, _, rfl, rfl, hL2, by rw [List.length_map]; omega, ?_⟩
      have sm := sj.trans (sUpd (o := .lst (ps.map V.ref ++ [V.str "a"])) nL2 sk)
      generalize upd Hk L2 (.lst (ps.map V.ref ++ [V.str "a"])) = Hm at sm
      refine ⟨_, rfl, q, dx, _, rfl, sm _ _ hqi, lk1, q, .var c0, rfl, tq.same sm, hd, fun L3 Hp sp nL3 hL3 => ?_⟩
      refine ⟨.inl ⟨rfl, _, .inl (.inl hL3)⟩, L3, _, _, rfl, rfl, hL3, by rw [List.length_map]; omega, ?_⟩
      have sr := sm.trans (sUpd (o := .lst ((ascI (Tr.var c0).ns).map V.int ++ [V.int 0])) nL3 sp)
      generalize upd Hp L3 (.lst ((ascI (Tr.var c0).ns).map V.int ++ [V.int 0])) = Hr at sr
      refine ⟨_, rfl, q, .var c0, rfl, tq.same sr, hd, fun r3 Hs ss dp3 => ?_⟩
      have st := sr.trans ss
      refine ⟨_, rfl, _, .var c0, rfl, tr_same st hdt, ok, hd, fun r4 Ht su dp4 => ?_⟩
      refine neDself (dp_same su dp3) dp4 (told_shaped ok) ?_
      refine ⟨_, rfl, ?_⟩
      exact ⟨_, _, _, _, _, _, _, _, rfl, st.trans su⟩
    | cho t1 t2 t3 t4 =>
      obtain ⟨pp, v1, v2, v3, v4, rfl, sq, _⟩ := tr_cho (tr_same s12 hdt)
      refine ⟨_, rfl, ⟨isiTy (tyT sq) (by decide +kernel : kitB "tuple" "int" = some false) ?_⟩⟩
      refine ⟨_, rfl, ?_⟩
      refine ⟨_, rfl, q, dx, _, rfl, s12 _ _ hqi, lk1, q, .cho t1 t2 t3 t4, rfl, tq.same s12, hd, fun L1 Hi si nL1 hL1 => ?_⟩
      refine ⟨.inl ⟨rfl, _, .inl (.inl hL1)⟩, L1, _, _, rfl, rfl, hL1, by rw [List.length_map]; omega, ?_⟩
      have sj := s12.trans (sUpd (o := .lst ((ascS (Tr.cho t1 t2 t3 t4).ws).map V.str ++ [V.str "a"])) nL1 si)
      generalize upd Hi L1 (.lst ((ascS (Tr.cho t1 t2 t3 t4).ws).map V.str ++ [V.str "a"])) = Hj at sj
      refine ⟨_, rfl, q, dx, _, rfl, sj _ _ hqi, lk1, q, .cho t1 t2 t3 t4, rfl, tq.same sj, hd, fun L2 ps Hk sk nL2 hL2 lps _ => ?_⟩
      refine ⟨.inl ⟨rfl, _, .inl (.inl hL2)⟩, L2, _, _, rfl, rfl, hL2, by rw [List.length_map]; omega, ?_⟩
      have sm := sj.trans (sUpd (o := .lst (ps.map V.ref ++ [V.str "a"])) nL2 sk)
      generalize upd Hk L2 (.lst (ps.map V.ref ++ [V.str "a"])) = Hm at sm
      refine ⟨_, rfl, q, dx, _, rfl, sm _ _ hqi, lk1, q, .cho t1 t2 t3 t4, rfl, tq.same sm, hd, fun L3 Hp sp nL3 hL3 => ?_⟩
      refine ⟨.inl ⟨rfl, _, .inl (.inl hL3)⟩, L3, _, _, rfl, rfl, hL3, by rw [List.length_map]; omega, ?_⟩
      have sr := sm.trans (sUpd (o := .lst ((ascI (Tr.cho t1 t2 t3 t4).ns).map V.int ++ [V.int 0])) nL3 sp)
      generalize upd Hp L3 (.lst ((ascI (Tr.cho t1 t2 t3 t4).ns).map V.int ++ [V.int 0])) = Hr at sr
      refine ⟨_, rfl, q, .cho t1 t2 t3 t4, rfl, tq.same sr, hd, fun r3 Hs ss dp3 => ?_⟩
      have st := sr.trans ss
      refine ⟨_, rfl, _, .cho t1 t2 t3 t4, rfl, tr_same st hdt, ok, hd, fun r4 Ht su dp4 => ?_⟩
      refine neDself (dp_same su dp3) dp4 (told_shaped ok) ?_
      refine ⟨_, rfl, ?_⟩
      exact ⟨_, _, _, _, _, _, _, _, rfl, st.trans su⟩
end
end Z
open PySem PySem.W PyProof.Rows
set_option maxRecDepth 100000
set_option maxHeartbeats 0
open_top hd for PySem.Challenge.rw_tiedsteps_k01_whole_terms_beside_trees
open PySem PySem.W PyProof.Rows
set_option maxRecDepth 100000
set_option maxHeartbeats 0
theorem PySem.Challenge.cw_tiedsteps_k01_whole_terms_beside_trees_holds : PySem.Challenge.rw_tiedsteps_k01_whole_terms_beside_trees.Holds := by
  refine hd ?_
  k_fill
  refine Z.walkG (l := PySem.Challenge.rw_tiedsteps_k01_whole_terms_beside_trees) (n := 63) (k := 30) (x := "script") (CX := fun _ => L2.CX0) (sp := fun w => Z.spLaw (hd.heap_39 w.params)) rfl (by decide) rfl ⟨rfl, by decide, by decide⟩ (fun w h Y => PySem.W.kIn_of Y) ?F ?G ?H
  case G => exact fun w H s ns hl hb hO hS => ⟨s, ns, rfl, hS, hb, fun _ => rfl⟩
  case H => exact fun _ _ _ _ _ z => z
  case F =>
    intro w mg fa h KX G hmg
    have T : ∃ a : Z.Ad, Z.Tx PySem.Challenge.rw_tiedsteps_k01_whole_terms_beside_trees.prog (hd.heap_39 w.params) mg a := ?T
    case T =>
      clear hmg
      refine' Z.tx_mk (P := PySem.Challenge.rw_tiedsteps_k01_whole_terms_beside_trees.prog) KX G ?h_g_TiedError ?h_g_NoTerm ?h_l_NoTerm ?h_r_NoTerm ?h_s_NoTerm ?h_n_NoTerm ?h_i_NoTerm ?h_t_NoTerm ?h_k_NoTerm ?h_x_NoTerm ?h_v_NoTerm ?h_y_NoTerm ?h_xf_NoTerm ?h_fn_NoTerm ?h_cd_NoTerm ?h_lc_NoTerm ?h_v2_NoTerm ?h_fi_NoTerm ?h_ln_NoTerm ?h_ce_NoTerm ?h_se_NoTerm ?h_up_NoTerm ?h_te_NoTerm ?h_kb_NoTerm_TiedError ?h_v_LETTERS ?h_v_DIGITS ?h_v_MOST_LETTERS ?h_a_is_whole ?h_l_is_whole ?h_c_is_whole ?h_k_is_whole ?h_a_is_number ?h_l_is_number ?h_c_is_number ?h_k_is_number ?h_a_is_word ?h_l_is_word ?h_c_is_word ?h_k_is_word ?h_a_is_digit ?h_l_is_digit ?h_c_is_digit ?h_k_is_digit ?h_a_ascending_words ?h_l_ascending_words ?h_c_ascending_words ?h_k_ascending_words ?h_a_ascending_numbers ?h_l_ascending_numbers ?h_c_ascending_numbers ?h_k_ascending_numbers ?h_v_MOST_DEPTH ?h_v_MOST_CONSTANT ?h_v_SIGNS ?h_w_SIGNS ?h_a_word_at ?h_l_word_at ?h_c_word_at ?h_k_word_at ?h_a_plan_at ?h_l_plan_at ?h_c_plan_at ?h_k_plan_at ?h_a_depth_of ?h_l_depth_of ?h_c_depth_of ?h_k_depth_of ?h_a_text_of ?h_l_text_of ?h_c_text_of ?h_k_text_of ?h_a_leaves_of ?h_l_leaves_of ?h_c_leaves_of ?h_k_leaves_of ?h_a_stands_in ?h_l_stands_in ?h_c_stands_in ?h_k_stands_in ?h_a_plan_of ?h_l_plan_of ?h_c_plan_of ?h_k_plan_of ?h_g_Term ?h_pg_Term ?h_hd_Term ?h_po_Term ?h_sa_Term ?h_kp_Term ?h_ty_Term ?h_mo_Term ?h_kit_Term_NoneType ?h_kit_Term_bool ?h_kit_Term_int ?h_kit_Term_str ?h_kit_Term_list ?h_kit_Term_tuple ?h_kit_Term_dict ?h_kit_Term ?h_l_Term___init__ ?h_c_Term___init__ ?h_k_Term___init__ ?h_a_Term___init__ ?h_i_Term___init__ ?h_mk_Term ?h_l_Term_choice ?h_c_Term_choice ?h_k_Term_choice ?h_r1_Term_choice ?h_r2_Term_choice ?h_r3_Term_choice ?h_r4_Term_choice ?h_l_Term___str__ ?h_c_Term___str__ ?h_k_Term___str__ ?h_a_Term___str__ ?h_i_Term___str__ ?h_fm_Term ?h_l_Term_depth ?h_c_Term_depth ?h_k_Term_depth ?h_q1_Term_depth ?h_q2_Term_depth ?h_q3_Term_depth ?h_q4_Term_depth ?h_l_Term_kind ?h_c_Term_kind ?h_k_Term_kind ?h_q1_Term_kind ?h_q2_Term_kind ?h_q3_Term_kind ?h_q4_Term_kind ?h_l_Term_variables ?h_c_Term_variables ?h_k_Term_variables ?h_a_Term_variables ?h_i_Term_variables ?h_l_Term_constants ?h_c_Term_constants ?h_k_Term_constants ?h_a_Term_constants ?h_i_Term_constants ?h_l_Term_parts ?h_c_Term_parts ?h_k_Term_parts ?h_a_Term_parts ?h_i_Term_parts ?h_l_Term___contains__ ?h_c_Term___contains__ ?h_k_Term___contains__ ?h_a_Term___contains__ ?h_i_Term___contains__ ?h_l_Term___len__ ?h_c_Term___len__ ?h_k_Term___len__ ?h_a_Term___len__ ?h_i_Term___len__ ?h_l_Term___eq__ ?h_c_Term___eq__ ?h_k_Term___eq__ ?h_a_Term___eq__ ?h_i_Term___eq__ ?h_ne_Term ?h_nf_Term ?h_nx_Term_int ?h_nx_Term_tuple ?h_nx_Term_NoneType ?h_nx_Term_bool ?h_nx_Term_list ?h_nx_Term_dict ?h_l_Term_within ?h_c_Term_within ?h_k_Term_within ?h_a_Term_within ?h_i_Term_within ?h_no_Term_tree ?h_a__law_pool ?h_l__law_pool ?h_c__law_pool ?h_k__law_pool ?h_a__law_take ?h_l__law_take ?h_c__law_take ?h_k__law_take ?h_a__law_one ?h_l__law_one ?h_c__law_one ?h_k__law_one ?h_a__law_words ?h_l__law_words ?h_c__law_words ?h_k__law_words ?h_a__law_tree ?h_l__law_tree ?h_c__law_tree ?h_k__law_tree ?h_a__law_tree_text ?h_l__law_tree_text ?h_c__law_tree_text ?h_k__law_tree_text ?h_a__law_tree_deep ?h_l__law_tree_deep ?h_c__law_tree_deep ?h_k__law_tree_deep ?h_a__law_tree_leaves ?h_l__law_tree_leaves ?h_c__law_tree_leaves ?h_k__law_tree_leaves ?h_a__law_tree_words ?h_l__law_tree_words ?h_c__law_tree_words ?h_k__law_tree_words ?h_a__law_tree_digits ?h_l__law_tree_digits ?h_c__law_tree_digits ?h_k__law_tree_digits ?h_a__law_kind_told ?h_l__law_kind_told ?h_c__law_kind_told ?h_k__law_kind_told ?h_a__law_told ?h_l__law_told ?h_c__law_told ?h_k__law_told ?h_a__law_due ?h_l__law_due ?h_c__law_due ?h_k__law_due ?h_a_law ?h_l_law ?h_c_law ?h_k_law ?h_b_len ?h_b_max ?h_b_min ?h_b_int ?h_b_str ?h_b_tuple ?h_b_list ?h_b_bool ?h_b_dict ?h_b_set ?h_b_isinstance ?h_b_sorted ?h_b_repr ?h_b_range ?h_b_enumerate ?h_b_zip ?h_b_sum ?h_b_all ?h_b_any ?h_sup ?h_topS ?h_opq ?h_tn ?h_tt
      (case h_g_TiedError => first | k_is | rfl | decide)
      (case h_g_NoTerm => first | k_is | rfl | decide)
      (case h_g_Term => first | k_is | rfl | decide)
      (case h_r3_Term_choice => first | k_is | rfl | decide)
      (case h_r4_Term_choice => first | k_is | rfl | decide)
      (case h_q1_Term_depth => first | k_is | rfl | decide)
      (case h_q1_Term_kind => first | k_is | rfl | decide)
      (case h_q4_Term_depth => first | k_is | rfl | decide)
      (case h_q4_Term_kind => first | k_is | rfl | decide)
      (case h_a_is_whole => first | k_is | rfl | decide)
      (case h_a_is_number => first | k_is | rfl | decide)
      (case h_a_is_word => first | k_is | rfl | decide)
      (case h_a_is_digit => first | k_is | rfl | decide)
      (case h_a_ascending_words => first | k_is | rfl | decide)
      (case h_a_ascending_numbers => first | k_is | rfl | decide)
      (case h_a_word_at => first | k_is | rfl | decide)
      (case h_a_plan_at => first | k_is | rfl | decide)
      (case h_a_depth_of => first | k_is | rfl | decide)
      (case h_a_text_of => first | k_is | rfl | decide)
      (case h_a_leaves_of => first | k_is | rfl | decide)
      (case h_a_stands_in => first | k_is | rfl | decide)
      (case h_a_plan_of => first | k_is | rfl | decide)
      (case h_a_Term___init__ => first | k_is | rfl | decide)
      (case h_a_Term___str__ => first | k_is | rfl | decide)
      (case h_a_Term_variables => first | k_is | rfl | decide)
      (case h_a_Term_constants => first | k_is | rfl | decide)
      (case h_a_Term_parts => first | k_is | rfl | decide)
      (case h_a_Term___contains__ => first | k_is | rfl | decide)
      (case h_a_Term___len__ => first | k_is | rfl | decide)
      (case h_a_Term___eq__ => first | k_is | rfl | decide)
      (case h_a_Term_within => first | k_is | rfl | decide)
      (case h_a__law_pool => first | k_is | rfl | decide)
      (case h_a__law_take => first | k_is | rfl | decide)
      (case h_a__law_one => first | k_is | rfl | decide)
      (case h_a__law_words => first | k_is | rfl | decide)
      (case h_a__law_tree => first | k_is | rfl | decide)
      (case h_a__law_tree_text => first | k_is | rfl | decide)
      (case h_a__law_tree_deep => first | k_is | rfl | decide)
      (case h_a__law_tree_leaves => first | k_is | rfl | decide)
      (case h_a__law_tree_words => first | k_is | rfl | decide)
      (case h_a__law_tree_digits => first | k_is | rfl | decide)
      (case h_a__law_kind_told => first | k_is | rfl | decide)
      (case h_a__law_told => first | k_is | rfl | decide)
      (case h_a__law_due => first | k_is | rfl | decide)
      (case h_a_law => first | k_is | rfl | decide)
      (case h_v_NoTerm => first | k_is | rfl | decide)
      (case h_v_LETTERS => first | k_is | rfl | decide)
      (case h_v_DIGITS => first | k_is | rfl | decide)
      (case h_v_MOST_LETTERS => first | k_is | rfl | decide)
      (case h_v_MOST_DEPTH => first | k_is | rfl | decide)
      (case h_v_MOST_CONSTANT => first | k_is | rfl | decide)
      (case h_v_SIGNS => first | k_is | rfl | decide)
      (case h_w_SIGNS => first | k_is | rfl | decide)
      (case h_i_NoTerm => first | k_is | rfl | decide)
      (case h_i_Term___init__ => first | k_is | rfl | decide)
      (case h_i_Term___str__ => first | k_is | rfl | decide)
      (case h_i_Term_variables => first | k_is | rfl | decide)
      (case h_i_Term_constants => first | k_is | rfl | decide)
      (case h_i_Term_parts => first | k_is | rfl | decide)
      (case h_i_Term___contains__ => first | k_is | rfl | decide)
      (case h_i_Term___len__ => first | k_is | rfl | decide)
      (case h_i_Term___eq__ => first | k_is | rfl | decide)
      (case h_i_Term_within => first | k_is | rfl | decide)
      (case h_fn_NoTerm => first | k_is | rfl | decide)
      (case h_l_NoTerm => first | k_is | rfl | decide)
      (case h_l_is_whole => first | k_is | rfl | decide)
      (case h_l_is_number => first | k_is | rfl | decide)
      (case h_l_is_word => first | k_is | rfl | decide)
      (case h_l_is_digit => first | k_is | rfl | decide)
      (case h_l_ascending_words => first | k_is | rfl | decide)
      (case h_l_ascending_numbers => first | k_is | rfl | decide)
      (case h_l_word_at => first | k_is | rfl | decide)
      (case h_l_plan_at => first | k_is | rfl | decide)
      (case h_l_depth_of => first | k_is | rfl | decide)
      (case h_l_text_of => first | k_is | rfl | decide)
      (case h_l_leaves_of => first | k_is | rfl | decide)
      (case h_l_stands_in => first | k_is | rfl | decide)
      (case h_l_plan_of => first | k_is | rfl | decide)
      (case h_l_Term___init__ => first | k_is | rfl | decide)
      (case h_l_Term_choice => first | k_is | rfl | decide)
      (case h_l_Term___str__ => first | k_is | rfl | decide)
      (case h_l_Term_depth => first | k_is | rfl | decide)
      (case h_l_Term_kind => first | k_is | rfl | decide)
      (case h_l_Term_variables => first | k_is | rfl | decide)
      (case h_l_Term_constants => first | k_is | rfl | decide)
      (case h_l_Term_parts => first | k_is | rfl | decide)
      (case h_l_Term___contains__ => first | k_is | rfl | decide)
      (case h_l_Term___len__ => first | k_is | rfl | decide)
      (case h_l_Term___eq__ => first | k_is | rfl | decide)
      (case h_l_Term_within => first | k_is | rfl | decide)
      (case h_l__law_pool => first | k_is | rfl | decide)
      (case h_l__law_take => first | k_is | rfl | decide)
      (case h_l__law_one => first | k_is | rfl | decide)
      (case h_l__law_words => first | k_is | rfl | decide)
      (case h_l__law_tree => first | k_is | rfl | decide)
      (case h_l__law_tree_text => first | k_is | rfl | decide)
      (case h_l__law_tree_deep => first | k_is | rfl | decide)
      (case h_l__law_tree_leaves => first | k_is | rfl | decide)
      (case h_l__law_tree_words => first | k_is | rfl | decide)
      (case h_l__law_tree_digits => first | k_is | rfl | decide)
      (case h_l__law_kind_told => first | k_is | rfl | decide)
      (case h_l__law_told => first | k_is | rfl | decide)
      (case h_l__law_due => first | k_is | rfl | decide)
      (case h_l_law => first | k_is | rfl | decide)
      (case h_lc_NoTerm => first | k_is | rfl | decide)
      (case h_r_NoTerm => first | k_is | rfl | decide)
      (case h_s_NoTerm => first | k_is | rfl | decide)
      (case h_n_NoTerm => first | k_is | rfl | decide)
      (case h_t_NoTerm => first | k_is | rfl | decide)
      (case h_k_NoTerm => first | k_is | rfl | decide)
      (case h_x_NoTerm => first | k_is | rfl | decide)
      (case h_y_NoTerm => first | k_is | rfl | decide)
      (case h_xf_NoTerm => first | k_is | rfl | decide)
      (case h_cd_NoTerm => first | k_is | rfl | decide)
      (case h_v2_NoTerm => first | k_is | rfl | decide)
      (case h_fi_NoTerm => first | k_is | rfl | decide)
      (case h_ln_NoTerm => first | k_is | rfl | decide)
      (case h_ce_NoTerm => first | k_is | rfl | decide)
      (case h_se_NoTerm => first | k_is | rfl | decide)
      (case h_up_NoTerm => first | k_is | rfl | decide)
      (case h_te_NoTerm => first | k_is | rfl | decide)
      (case h_kb_NoTerm_TiedError => first | k_is | rfl | decide)
      (case h_c_is_whole => first | k_is | rfl | decide)
      (case h_k_is_whole => first | k_is | rfl | decide)
      (case h_c_is_number => first | k_is | rfl | decide)
      (case h_k_is_number => first | k_is | rfl | decide)
      (case h_c_is_word => first | k_is | rfl | decide)
      (case h_k_is_word => first | k_is | rfl | decide)
      (case h_c_is_digit => first | k_is | rfl | decide)
      (case h_k_is_digit => first | k_is | rfl | decide)
      (case h_c_ascending_words => first | k_is | rfl | decide)
      (case h_k_ascending_words => first | k_is | rfl | decide)
      (case h_c_ascending_numbers => first | k_is | rfl | decide)
      (case h_k_ascending_numbers => first | k_is | rfl | decide)
      (case h_c_word_at => first | k_is | rfl | decide)
      (case h_k_word_at => first | k_is | rfl | decide)
      (case h_c_plan_at => first | k_is | rfl | decide)
      (case h_k_plan_at => first | k_is | rfl | decide)
      (case h_c_depth_of => first | k_is | rfl | decide)
      (case h_k_depth_of => first | k_is | rfl | decide)
      (case h_c_text_of => first | k_is | rfl | decide)
      (case h_k_text_of => first | k_is | rfl | decide)
      (case h_c_leaves_of => first | k_is | rfl | decide)
      (case h_k_leaves_of => first | k_is | rfl | decide)
      (case h_c_stands_in => first | k_is | rfl | decide)
      (case h_k_stands_in => first | k_is | rfl | decide)
      (case h_c_plan_of => first | k_is | rfl | decide)
      (case h_k_plan_of => first | k_is | rfl | decide)
      (case h_pg_Term => first | k_is | rfl | decide)
      (case h_hd_Term => first | k_is | rfl | decide)
      (case h_po_Term => first | k_is | rfl | decide)
      (case h_sa_Term => first | k_is | rfl | decide)
      (case h_kp_Term => first | k_is | rfl | decide)
      (case h_ty_Term => first | k_is | rfl | decide)
      (case h_mo_Term => first | k_is | rfl | decide)
      (case h_kit_Term_NoneType => first | k_is | rfl | decide)
      (case h_kit_Term_bool => first | k_is | rfl | decide)
      (case h_kit_Term_int => first | k_is | rfl | decide)
      (case h_kit_Term_str => first | k_is | rfl | decide)
      (case h_kit_Term_list => first | k_is | rfl | decide)
      (case h_kit_Term_tuple => first | k_is | rfl | decide)
      (case h_kit_Term_dict => first | k_is | rfl | decide)
      (case h_kit_Term => first | k_is | rfl | decide)
      (case h_c_Term___init__ => first | k_is | rfl | decide)
      (case h_k_Term___init__ => first | k_is | rfl | decide)
      (case h_mk_Term => first | k_is | rfl | decide)
      (case h_c_Term_choice => first | k_is | rfl | decide)
      (case h_k_Term_choice => first | k_is | rfl | decide)
      (case h_r1_Term_choice => first | k_is | rfl | decide)
      (case h_r2_Term_choice => first | k_is | rfl | decide)
      (case h_c_Term___str__ => first | k_is | rfl | decide)
      (case h_k_Term___str__ => first | k_is | rfl | decide)
      (case h_fm_Term => first | k_is | rfl | decide)
      (case h_c_Term_depth => first | k_is | rfl | decide)
      (case h_k_Term_depth => first | k_is | rfl | decide)
      (case h_q2_Term_depth => first | k_is | rfl | decide)
      (case h_q3_Term_depth => first | k_is | rfl | decide)
      (case h_c_Term_kind => first | k_is | rfl | decide)
      (case h_k_Term_kind => first | k_is | rfl | decide)
      (case h_q2_Term_kind => first | k_is | rfl | decide)
      (case h_q3_Term_kind => first | k_is | rfl | decide)
      (case h_c_Term_variables => first | k_is | rfl | decide)
      (case h_k_Term_variables => first | k_is | rfl | decide)
      (case h_c_Term_constants => first | k_is | rfl | decide)
      (case h_k_Term_constants => first | k_is | rfl | decide)
      (case h_c_Term_parts => first | k_is | rfl | decide)
      (case h_k_Term_parts => first | k_is | rfl | decide)
      (case h_c_Term___contains__ => first | k_is | rfl | decide)
      (case h_k_Term___contains__ => first | k_is | rfl | decide)
      (case h_c_Term___len__ => first | k_is | rfl | decide)
      (case h_k_Term___len__ => first | k_is | rfl | decide)
      (case h_c_Term___eq__ => first | k_is | rfl | decide)
      (case h_k_Term___eq__ => first | k_is | rfl | decide)
      (case h_ne_Term => first | k_is | rfl | decide)
      (case h_nf_Term => first | k_is | rfl | decide)
      (case h_nx_Term_int => first | k_is | rfl | decide)
      (case h_nx_Term_tuple => first | k_is | rfl | decide)
      (case h_nx_Term_NoneType => first | k_is | rfl | decide)
      (case h_nx_Term_bool => first | k_is | rfl | decide)
      (case h_nx_Term_list => first | k_is | rfl | decide)
      (case h_nx_Term_dict => first | k_is | rfl | decide)
      (case h_c_Term_within => first | k_is | rfl | decide)
      (case h_k_Term_within => first | k_is | rfl | decide)
      (case h_no_Term_tree => first | k_is | rfl | decide)
      (case h_c__law_pool => first | k_is | rfl | decide)
      (case h_k__law_pool => first | k_is | rfl | decide)
      (case h_c__law_take => first | k_is | rfl | decide)
      (case h_k__law_take => first | k_is | rfl | decide)
      (case h_c__law_one => first | k_is | rfl | decide)
      (case h_k__law_one => first | k_is | rfl | decide)
      (case h_c__law_words => first | k_is | rfl | decide)
      (case h_k__law_words => first | k_is | rfl | decide)
      (case h_c__law_tree => first | k_is | rfl | decide)
      (case h_k__law_tree => first | k_is | rfl | decide)
      (case h_c__law_tree_text => first | k_is | rfl | decide)
      (case h_k__law_tree_text => first | k_is | rfl | decide)
      (case h_c__law_tree_deep => first | k_is | rfl | decide)
      (case h_k__law_tree_deep => first | k_is | rfl | decide)
      (case h_c__law_tree_leaves => first | k_is | rfl | decide)
      (case h_k__law_tree_leaves => first | k_is | rfl | decide)
      (case h_c__law_tree_words => first | k_is | rfl | decide)
      (case h_k__law_tree_words => first | k_is | rfl | decide)
      (case h_c__law_tree_digits => first | k_is | rfl | decide)
      (case h_k__law_tree_digits => first | k_is | rfl | decide)
      (case h_c__law_kind_told => first | k_is | rfl | decide)
      (case h_k__law_kind_told => first | k_is | rfl | decide)
      (case h_c__law_told => first | k_is | rfl | decide)
      (case h_k__law_told => first | k_is | rfl | decide)
      (case h_c__law_due => first | k_is | rfl | decide)
      (case h_k__law_due => first | k_is | rfl | decide)
      (case h_c_law => first | k_is | rfl | decide)
      (case h_k_law => first | k_is | rfl | decide)
      (case h_b_len => first | k_is | rfl | decide)
      (case h_b_max => first | k_is | rfl | decide)
      (case h_b_min => first | k_is | rfl | decide)
      (case h_b_int => first | k_is | rfl | decide)
      (case h_b_str => first | k_is | rfl | decide)
      (case h_b_tuple => first | k_is | rfl | decide)
      (case h_b_list => first | k_is | rfl | decide)
      (case h_b_bool => first | k_is | rfl | decide)
      (case h_b_dict => first | k_is | rfl | decide)
      (case h_b_set => first | k_is | rfl | decide)
      (case h_b_isinstance => first | k_is | rfl | decide)
      (case h_b_sorted => first | k_is | rfl | decide)
      (case h_b_repr => first | k_is | rfl | decide)
      (case h_b_range => first | k_is | rfl | decide)
      (case h_b_enumerate => first | k_is | rfl | decide)
      (case h_b_zip => first | k_is | rfl | decide)
      (case h_b_sum => first | k_is | rfl | decide)
      (case h_b_all => first | k_is | rfl | decide)
      (case h_b_any => first | k_is | rfl | decide)
      (case h_sup => first | k_is | rfl | decide)
      (case h_topS => first | k_is | rfl | decide)
      (case h_opq => first | k_is | rfl | decide)
      (case h_tn => first | k_is | rfl | decide)
      (case h_tt => first | k_is | rfl | decide)
    obtain ⟨a, T⟩ := T
    have e := hmg.symm.trans T.law.mg
    cases e
    exact ⟨a.d_law, T.blaw, fun base _ _ => Z.ok_law T⟩
