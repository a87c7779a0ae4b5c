import PyProof.Rows.All
import KE.OsRunLaw
import Wide.All
import OpenK.AllK
import Wide.FinOn
import HandS.ForMost
import HandS.ForExc
import HandS.Wide
import HandS.WideBits
import HandS.RaiseMore
import HandS.IsInst
import HandS.ExcField
import HandS.TryMany
import HandS.Property
import HandS.Star
import HandS.Deep
import HandS.NoneIn
import HandS.SetKeys
import HandS.FStr
import HandS.OwnEq
import HandS.Flow
import HandS.TupAny
import HandS.ExcSuper
import HandS.ExcInit
import HandS.Defaults
import HandS.ClsMeth
import KE.KExcSuper
import PyProof.ReprRoads
import HandS.EndBits
import HandS.CallSlots
import HandS.ExcIs
import HandS.Walk
import PyProof.StrLawsRepr
import PyProof.ReprLen
import PyProof.StrOps2
import KE.KCallOwn
import KE.KOpsOwn
import KE.KExcIs
import HandS.MakeKwOnly
import HandS.Lambda
import HandS.EndOwn
import KE.KFmtOwn
import HandS.SetTxt0
import HandS.SetBool
import HandS.Strs
import HandS.SetFor
import HandS.DictComp
import HandS.Conv
import HandS.DictTup
import HandS.ListItems
import KE.KDictPairs
import KE.KDictZip
import HandS.Zip
import HandS.SortInts
import HandS.Style
import PySem.Challenge.RW_tiedsteps_k03_whole_values_of_terms
set_option Elab.async false
set_option linter.all false
set_option maxRecDepth 100000
set_option maxHeartbeats 0
namespace Hq
open PySem PySem.W PyProof.Rows HeadRun
theorem split2 {σ α β : Type} {x : Option σ} {f : σ → α} {g : σ → β} {a : α} {b : β} (h₁ : x.map f = some a) (h₂ : x.map g = some b) : x.map (fun s => (f s, g s)) = some (a, b) := by
  cases x with
  | none => cases h₁
  | some s => cases h₁; cases h₂; rfl
theorem split3 {σ α β γ : Type} {x : Option σ} {f : σ → α} {g : σ → β} {k : σ → γ} {a : α} {b : β} {c : γ} (h₁ : x.map f = some a) (h₂ : x.map g = some b) (h₃ : x.map k = some c) :
    x.map (fun s => (f s, g s, k s)) = some (a, b, c) := split2 h₁ (split2 h₂ h₃)
theorem mention (_ : Hook) {r : OpenRow} (hs : r.wellSaid = true) (hw : r.toRowW.promised) (hc : r.wellSaid = true → r.toRowW.promised → r.Holds) : r.Holds := hc hs hw
end Hq
open PySem PySem.W PyProof.Rows
local macro_rules | `(tactic| o_head $H) => `(tactic| refine Hq.mention $H (by assumption) ?hw ?hc)
open_top hd for PySem.Challenge.rw_tiedsteps_k03_whole_values_of_terms
namespace Hq
open PySem PySem.W PyProof.Rows HeadRun
def drOf (s : Stmt) : DefRec := match s with | .FunctionDef n a b _ _ _ sc _ _ p => ⟨n, a, b, sc, p⟩ | _ => ⟨"", ⟨[], [], none, [], [], none, []⟩, [], default, ⟨0, 0, 0, 0⟩⟩
def sLaw : Stmt := PySem.Challenge.rw_tiedsteps_k03_whole_values_of_terms.prog.main.body.getD 43 (.Pass ⟨0, 0, 0, 0⟩)
def dLaw : DefRec := drOf sLaw
def vw : Program := { PySem.Challenge.rw_tiedsteps_k03_whole_values_of_terms.prog with main := { PySem.Challenge.rw_tiedsteps_k03_whole_values_of_terms.prog.main with body := [sLaw] } }
theorem hdef : defOf vw PySem.Challenge.rw_tiedsteps_k03_whole_values_of_terms.row.toRowW.name = some (dLaw, []) := by kernel_rfl
theorem hthe : PySem.Challenge.rw_tiedsteps_k03_whole_values_of_terms.row.toRowW.prog.theDef PySem.Challenge.rw_tiedsteps_k03_whole_values_of_terms.row.toRowW.name = some (dLaw.params, dLaw.body, dLaw.scope) := by kernel_rfl
theorem hkw : kwWritten? dLaw.params.kwonlyargs dLaw.params.kw_defaults = some [] := by kernel_rfl
theorem hdfl : dLaw.params.defaults = [] := by kernel_rfl
theorem hok : (chainsOk vw && opensWell PySem.Challenge.rw_tiedsteps_k03_whole_values_of_terms.row.toRowW.prog && (frees PySem.Challenge.rw_tiedsteps_k03_whole_values_of_terms.row.toRowW && PySem.Challenge.rw_tiedsteps_k03_whole_values_of_terms.row.toRowW.within.isEmpty)) = true := by decide +kernel
theorem hbare : PySem.Challenge.rw_tiedsteps_k03_whole_values_of_terms.row.toRowW.prog.bare := ⟨rfl, rfl, rfl, rfl, rfl, by decide +kernel⟩
abbrev ls : List Str := [("_wall" : Str), ("TiedError" : Str), ("NoTerm" : Str), ("NoName" : Str), ("LETTERS" : Str), ("DIGITS" : Str), ("MOST_LETTERS" : Str), ("is_whole" : Str), ("is_number" : Str), ("is_word" : Str), ("is_digit" : Str), ("ascending_words" : Str), ("ascending_numbers" : Str), ("MOST_DEPTH" : Str), ("MOST_CONSTANT" : Str), ("SIGNS" : Str), ("word_at" : Str), ("plan_at" : Str), ("depth_of" : Str), ("text_of" : Str), ("leaves_of" : Str), ("value_of" : Str), ("stands_in" : Str), ("plan_of" : Str), ("Term" : Str), ("_law_pool" : Str), ("_law_take" : Str), ("_law_one" : Str), ("_law_part" : Str), ("_law_words" : Str), ("_law_tree" : Str), ("_law_tree_text" : Str), ("_law_tree_leaves" : Str), ("_law_tree_words" : Str), ("_law_tree_digits" : Str), ("_law_tree_worth" : Str), ("_law_told" : Str), ("_law_due" : Str), ("_law_moved_right" : Str)]
def P0 : Params := { strHash := fun _ => 0, shareClass := fun _ => 0, mergeTok := fun t => t, idOf := fun _ => 0, idOfShared := fun _ _ => 0, followText := fun _ => false, idOfImm := fun _ => 0 }
abbrev Xt (s : Shared) : Bool := xlAt vw [] s && recOk (RowW.records PySem.Challenge.rw_tiedsteps_k03_whole_values_of_terms.row.toRowW) s
theorem run1 (w : World) (os : OsState) : (endF (stepQ (denQ tabQ) PySem.Challenge.rw_tiedsteps_k03_whole_values_of_terms.prog w) 40000 PySem.Challenge.rw_tiedsteps_k03_whole_values_of_terms.prog w os).map (fun s => looksF PySem.Challenge.rw_tiedsteps_k03_whole_values_of_terms.prog (boot_heap w.params) s.abs) = some true := by kernel_rfl
theorem run2 (w : World) (os : OsState) : (endF (stepQ (denQ tabQ) PySem.Challenge.rw_tiedsteps_k03_whole_values_of_terms.prog w) 40000 PySem.Challenge.rw_tiedsteps_k03_whole_values_of_terms.prog w os).map (fun s => seenQ vw ls (importedModules PySem.Challenge.rw_tiedsteps_k03_whole_values_of_terms.prog.main.body) Xt s.abs) = some (openGood vw ls) := by kernel_rfl
theorem run3 (w : World) (os : OsState) : (endF (stepQ (denQ tabQ) PySem.Challenge.rw_tiedsteps_k03_whole_values_of_terms.prog w) 40000 PySem.Challenge.rw_tiedsteps_k03_whole_values_of_terms.prog w os).map (fun s => ((hd.heap_39 P0).map (·.1)).map (getT s)) = some ((hd.heap_39 w.params).map fun x => some x.2) := by kernel_rfl
theorem adds (P : Params) : (hd.heap_39 P0).map (·.1) = (hd.heap_39 P).map (·.1) := by kernel_rfl
theorem left : LeftO PySem.Challenge.rw_tiedsteps_k03_whole_values_of_terms.prog vw ls Xt (Hook.obs (kHook hd.heap_39 ((hd.heap_39 P0).map (·.1)) adds)) (Hook.val (kHook hd.heap_39 ((hd.heap_39 P0).map (·.1)) adds)) 40700 true :=
  left_oneK (M := 40000) (by kernel_rfl) (by rfl) (fun s => by kernel_rfl) (by rfl) fun w os => split3 (run1 w os) (run2 w os) (run3 w os)
theorem leftR : LeftO PySem.Challenge.rw_tiedsteps_k03_whole_values_of_terms.row.toRowW.prog vw ls Xt (Hook.obs (kHook hd.heap_39 ((hd.heap_39 P0).map (·.1)) adds)) (Hook.val (kHook hd.heap_39 ((hd.heap_39 P0).map (·.1)) adds)) 40700 true := left
end Hq
set_option maxRecDepth 100000
set_option maxHeartbeats 4000000
namespace Z
open PySem PySem.Spec PyProof.Rows L2
theorem sNew {H : Hp} {p : Addr} {o : HO} (h : H p = none) : Same H (upd H p o) := fun b u e => by
  rw [upd_ne (ne_of_none e h)]
  exact e
theorem new {H : Hp} {o : HO} {Q : V → Hp → Prop} (h : ∀ p H1, H p = none → Same H H1 → H1 p = some o → Q (.ref p) H1) : ∀ p, H p = none → Q (.ref p) (upd H p o) :=
  fun p hp => h p _ hp (sNew hp) upd_same
def But (l : Addr) (H H' : Hp) : Prop := ∀ b o, b ≠ l → H b = some o → H' b = some o
theorem But.same {H H' : Hp} (e : Same H H') (l : Addr) : But l H H' := fun b o _ h => e b o h
theorem But.upd {H : Hp} {l : Addr} {o : HO} : But l H (L2.upd H l o) := fun b u hb e => by
  rw [upd_ne hb]
  exact e
theorem But.trans {l : Addr} {H H1 H2 : Hp} (a : But l H H1) (b : But l H1 H2) : But l H H2 := fun c o hc h => b c o hc (a c o hc h)
theorem But.refl (l : Addr) (H : Hp) : But l H H := fun _ _ _ h => h
theorem But.fresh {l : Addr} {H H1 H2 : Hp} (n : H l = none) (a : Same H H1) (b : But l H1 H2) : Same H H2 := fun c o h => b c o (ne_of_none h n) (a c o h)
theorem SqL.same {K : PySem.W.Frag} {H H' : Hp} {a : Addr} {xs : List V} (e : Same H H') (h : SqL K H a xs) : SqL K H' a xs := e.seq h
theorem SqT.same {K : PySem.W.Frag} {H H' : Hp} {a : Addr} {xs : List V} (e : Same H H') (h : SqT K H a xs) : SqT K H' a xs := by
  rcases h with (h | ⟨o, h⟩) | h
  · exact .inl (.inl (e _ _ h))
  · exact .inl (.inr ⟨o, e _ _ h⟩)
  · exact .inr h
structure TK (H H' : Hp) : Prop where
  tup : ∀ b xs, H b = some (.tup xs) → H' b = some (.tup xs)
  frz : ∀ b o u, H b = some (.frz o u) → H' b = some (.frz o u)
theorem TK.of {H H' : Hp} (e : Same H H') : TK H H' := ⟨fun _ _ h => e _ _ h, fun _ _ _ h => e _ _ h⟩
theorem TK.trans {H H1 H2 : Hp} (a : TK H H1) (b : TK H1 H2) : TK H H2 := ⟨fun c xs h => b.tup c xs (a.tup c xs h), fun c o u h => b.frz c o u (a.frz c o u h)⟩
theorem TK.lst {H : Hp} {l : Addr} {xs : List V} {o : HO} (h : H l = some (.lst xs)) : TK H (upd H l o) :=
  ⟨fun b ys e => by rw [upd_ne (ne_of e h (by intro z; cases z))]; exact e, fun b o u e => by rw [upd_ne (ne_of e h (by intro z; cases z))]; exact e⟩
theorem SqT.tk {K : PySem.W.Frag} {H H' : Hp} {a : Addr} {xs : List V} (e : TK H H') (h : SqT K H a xs) : SqT K H' a xs := by
  rcases h with (h | ⟨o, h⟩) | h
  · exact .inl (.inl (e.tup _ _ h))
  · exact .inl (.inr ⟨o, e.frz _ _ _ h⟩)
  · exact .inr h
mutual
theorem dp_same {K : PySem.W.Frag} {H H' : Hp} (e : Same H H') : ∀ {v : V} {d : PyData}, Dp K H v d → Dp K H' v d
  | _, _, .non => .non
  | _, _, .bl b => .bl b
  | _, _, .int i => .int i
  | _, _, .str x => .str x
  | _, _, .lst h a => .lst (SqL.same e h) (dpAll_same e a)
  | _, _, .tup h a => .tup (SqT.same e h) (dpAll_same e a)
theorem dpAll_same {K : PySem.W.Frag} {H H' : Hp} (e : Same H H') : ∀ {vs : List V} {ds : List PyData}, DpAll K H vs ds → DpAll K H' vs ds
  | _, _, .nil => .nil
  | _, _, .cons h a => .cons (dp_same e h) (dpAll_same e a)
end
theorem DpAll.length {K : PySem.W.Frag} {H : Hp} : ∀ {vs : List V} {ds : List PyData}, DpAll K H vs ds → vs.length = ds.length
  | _, _, .nil => rfl
  | _, _, .cons _ a => congrArg (· + 1) (DpAll.length a)
theorem DpAll.app {K : PySem.W.Frag} {H : Hp} : ∀ {vs : List V} {ds : List PyData} {ws : List V} {es : List PyData}, DpAll K H vs ds → DpAll K H ws es → DpAll K H (vs ++ ws) (ds ++ es)
  | _, _, _, _, .nil, b => b
  | _, _, _, _, .cons h a, b => .cons h (DpAll.app a b)
theorem DpAll.get {K : PySem.W.Frag} {H : Hp} : ∀ {vs : List V} {ds : List PyData} {i : Nat} {v : V}, DpAll K H vs ds → vs[i]? = some v → ∃ d, ds[i]? = some d ∧ Dp K H v d
  | _, _, _, _, .nil, e => by simp at e
  | _, _, 0, _, .cons h a, e => by
    simp at e
    subst e
    exact ⟨_, rfl, h⟩
  | _, _, i + 1, v, .cons h a, e => by
    obtain ⟨d, h1, h2⟩ := DpAll.get (i := i) (v := v) a (by simpa using e)
    exact ⟨d, by simpa using h1, h2⟩
theorem dpAll_map {K : PySem.W.Frag} {H : Hp} {α : Type} (f : α → V) (g : α → PyData) (h : ∀ a, Dp K H (f a) (g a)) : ∀ l : List α, DpAll K H (l.map f) (l.map g)
  | [] => .nil
  | a :: r => .cons (h a) (dpAll_map f g h r)
section
variable {X : Cx}
theorem OpR.box {f : Value → Value → Sem Value} {r r' : R2} (h : OpR X f r) (e : ∀ x y H Q, r' x y H Q → r x y H Q) : OpR X f r' := fun pins s σ H x y v u Q I rx ry q => h pins s σ H x y v u Q I rx ry (e _ _ _ _ q)
structure rAddA (K : PySem.W.Frag) (x y : V) (H : Hp) (Q : VK) : Prop where
  h : rI0 (fun i j => .int (i + j)) x y H Q ∨ (∃ i j, x = .str i ∧ y = .str j ∧ i.length + j.length ≤ sizeLine ∧ Q (.str (i ++ j)) H) ∨ rCat x y H Q ∨ rCatA K x y H Q
theorem op_addA {K : PySem.W.Frag} (k : X.K = K := by rfl) : OpR X (binaryOp .Add) (rAddA K) := by
  subst k
  exact OpR.box (OpR.or op_add (OpR.or op_add_str (OpR.or op_cat op_catA))) fun _ _ _ _ q => q.h
theorem addI {K : PySem.W.Frag} {i j : Int} {H : Hp} {Q : VK} (q : Q (.int (i + j)) H) : rAddA K (.int i) (.int j) H Q := ⟨.inl ⟨i, j, rfl, rfl, q⟩⟩
theorem addS {K : PySem.W.Frag} {i j : Str} {H : Hp} {Q : VK} (h : i.length + j.length ≤ sizeLine) (q : Q (.str (i ++ j)) H) : rAddA K (.str i) (.str j) H Q := ⟨.inr (.inl ⟨i, j, rfl, rfl, h, q⟩)⟩
theorem addL {K : PySem.W.Frag} {a b : Addr} {xs ys : List V} {H : Hp} {Q : VK} (ha : H a = some (.lst xs)) (hb : H b = some (.lst ys)) (h : xs.length + ys.length ≤ sizeLine)
    (q : ∀ p H1, H p = none → Same H H1 → H1 p = some (.lst (xs ++ ys)) → Q (.ref p) H1) : rAddA K (.ref a) (.ref b) H Q := ⟨.inr (.inr (.inl ⟨a, b, xs, ys, rfl, rfl, ha, hb, h, new q⟩))⟩
structure rMulA (x y : V) (H : Hp) (Q : VK) : Prop where
  h : rI CMulX (fun i j => .int (i * j)) x y H Q ∨ rRep x y H Q
theorem op_mulA : OpR X (binaryOp .Mult) rMulA := OpR.box (OpR.or op_mulX op_rep) fun _ _ _ _ q => q.h
theorem mulI {i j : Int} {H : Hp} {Q : VK} (h : CMulX i j) (q : Q (.int (i * j)) H) : rMulA (.int i) (.int j) H Q := ⟨.inl ⟨i, j, rfl, rfl, h, q⟩⟩
structure rInA (K : PySem.W.Frag) (neg : Bool) (x y : V) (H : Hp) (Q : VK) : Prop where
  h : rIn K neg x y H Q ∨ (∃ (c : Nat) (z : Str), x = .str ⟨#[c]⟩ ∧ y = .str z ∧ Q (.bl (if neg then !decide (c ∈ z.cps.toList) else decide (c ∈ z.cps.toList))) H)
theorem op_inA {K : PySem.W.Frag} (k : X.K = K := by rfl) : OpR X (compareOp .In) (rInA K false) := by
  subst k
  exact OpR.box (OpR.or op_in_seq (by
    intro pins s σ H x y v u Q I rx ry ⟨c, z, e1, e2, q⟩
    exact op_in_sign pins s σ H x y v u Q I rx ry ⟨c, z, e1, e2, q⟩)) fun _ _ _ _ q => q.h
theorem op_notInA {K : PySem.W.Frag} (k : X.K = K := by rfl) : OpR X (compareOp .NotIn) (rInA K true) := by
  subst k
  exact OpR.box (OpR.or op_notIn_seq (by
    intro pins s σ H x y v u Q I rx ry ⟨c, z, e1, e2, q⟩
    exact op_notIn_sign pins s σ H x y v u Q I rx ry ⟨c, z, e1, e2, q⟩)) fun _ _ _ _ q => q.h
theorem inSgn {K : PySem.W.Frag} {c : Nat} {z : Str} {H : Hp} {Q : VK} (q : Q (.bl (decide (c ∈ z.cps.toList))) H) : rInA K false (.str ⟨#[c]⟩) (.str z) H Q := ⟨.inr ⟨c, z, rfl, rfl, q⟩⟩
theorem ninSgn {K : PySem.W.Frag} {c : Nat} {z : Str} {H : Hp} {Q : VK} (q : Q (.bl (!decide (c ∈ z.cps.toList))) H) : rInA K true (.str ⟨#[c]⟩) (.str z) H Q := ⟨.inr ⟨c, z, rfl, rfl, q⟩⟩
end
end Z
set_option maxRecDepth 100000
set_option maxHeartbeats 4000000
namespace Z
open PySem PySem.Spec PyProof.Rows L2
structure FnG (P : Program) (w : World) (K : PySem.W.Frag) (mg : Str → Option Value) (base : Heap) (CX : CXT) (k : Nat) (f : Addr) (fd : FuncData) (ps : List Str) (sp : Sp) : Prop where
  len : ∀ vs H Q E, sp vs H Q E → vs.length = ps.length
  run : ∀ (A : Around) (outer : List Env) (s : Shared) (H : Hp) (args : Args) (us : List Value) (vs : List V) (Q : VK) (E : XK), Room k A → A.guards = some [] →
    Env0 P w K mg base A outer s H → BindsTo s fd args (ps.zip us) → Vals vs us → sp vs H Q E → codeAny (model P w) A (.call (.ref f) args) (CR CX outer P w H s Q E) s
section
variable {P : Program} {w : World} {K : PySem.W.Frag} {mg : Str → Option Value} {base : Heap} {CX : CXT}
theorem toG {k : Nat} {f : Addr} {fd : FuncData} {ps : List Str} {sp : Sp} (F : FnOk P w K mg base CX k f fd ps sp) : FnG P w K mg base CX k f fd ps sp :=
  ⟨F.len, fun A outer s H args us vs Q E hr _ => F.run A outer s H args us vs Q E hr⟩
theorem FnG.mono {j k : Nat} {f : Addr} {fd : FuncData} {ps : List Str} {sp : Sp} (F : FnG P w K mg base CX j f fd ps sp) (h : j ≤ k) : FnG P w K mg base CX k f fd ps sp :=
  ⟨F.len, fun A outer s H args us vs Q E hr => F.run A outer s H args us vs Q E (hr.mono h)⟩
theorem okG {x qual : Str} {st : Stmt} {f : Addr} {fd : FuncData} {N ps : List Str} {k : Nat} {sp : Sp} (F : Fun K x qual st f fd) (S : FnScope N ps (defScope st)) (len : ∀ vs H Q E, sp vs H Q E → vs.length = ps.length)
    (hbody : ∀ (cdv : Value) (A : Around) (outer : List Env) (s : Shared) (H : Hp) (vs : List V) (Q : VK) (E : XK), Room k (A.deeper (envOfC qual (defScope st) s.heap.objs.size f cdv)) → A.guards = some [] → sp vs H Q E →
      ∃ t, PSs (cxOf CX P w K mg base N qual (defScope st) f cdv A outer s H E) (defBody st) t ∧ t { nx := fun _ H' => Q .non H', rt := Q } (start N vs) H) : FnG P w K mg base CX (k + 1) f fd ps sp := by
  obtain ⟨oc, od, kV, doc, pm, an, cdv, ct, osl, rfl, lk, code⟩ := F.ex
  refine ⟨len, fun A outer s H args us vs Q E room gu e0 bd rv wish => ?_⟩
  have hin : K.In s.heap := e0.mod.kin.keeps fun b o e => (e0.bs b o e).1
  have big : s.heap.NoLimit := e0.mod.nolimit.keeps fun b o e => (e0.bs b o e).1
  have count := len vs H Q E wish
  refine codeAny_call_function room.depth (hin _ _ lk) rfl S.co S.gen rfl (PySem.W.codeRec_of hin code) (bd _ _ _ _ ?_)
  refine wpAny_newFunctionEnv_cells S.kind (fun y hy => ?_) fun env he s1 y => ?_
  · exact (S.par y.1 (List.of_mem_zip hy).1).imp id fun q => ⟨q, PySem.W.cellsFrom_some _ _ _ (.inl q)⟩
  · subst he
    refine ⟨big.keeps y.toInCall.keep, codeAny_func ?_⟩
    obtain ⟨t, der, rd⟩ := hbody cdv A outer s H vs Q E (room.deeper _) gu wish
    refine wpAny_mono (der.run [] s1 (start N vs) H _ (inv_start S room.hd e0 count rv y) rd) (fun fl s' out => ?_) fun _ _ out => out
    match fl, out with
    | .ret u, ⟨v, _, H', J, r, q⟩ => exact ⟨v, H', J.os, J.bare, J.base, J.hok, r, q⟩
    | .next, ⟨_, H', J, q⟩ => exact ⟨.non, H', J.os, J.bare, J.base, J.hok, rfl, q⟩
    | .brk, ⟨_, _, _, q⟩ => exact q.elim
    | .cont, ⟨_, _, _, q⟩ => exact q.elim
end
section
variable {X : Cx} {CX : CXT} {k : Nat} {f : Addr} {fd : FuncData} {ps : List Str} {sp : Sp} {E : L2.St → XK} {x : Str} {p pos : Pos} {e : Expr} {es : List Expr} {t : TA}
theorem run_G {pins : List (Addr × Obj)} {σ : L2.St} {H : Hp} {s : Shared} {Q : VK} {us : List Value} {vs : List V} (F : FnG X.prog X.w X.K X.mg X.base CX k f fd ps sp) (hr : Room k X.A) (gu : X.A.guards = some []) (hb : Binds X.K fd ps [])
    (hx : PassesAt CX X σ (E σ)) (I : Inv X pins σ H s) (r : Vals vs us) (h : sp vs H Q (E σ)) : wpAny (model X.prog X.w) X.A (call (.ref f) us) (EP X pins σ Q) X.xe s := by
  have hl : us.length = ps.length := by
    rw [← r.length]
    exact F.len _ _ _ _ h
  have bd := hb s us I.kIn (by rw [List.append_nil]; exact hl)
  rw [List.append_nil] at bd
  refine wpAny_call (codeAny_mono (F.run X.A X.stack s H ⟨us, []⟩ us vs Q (E σ) hr gu I.env0 bd r h) fun res s' out => ?_)
  match res, out with
  | .error er, out => exact hx pins H s er s' I out
  | .ok (.ret u), out => exact I.after out
  | .ok .next, out => exact out.elim
  | .ok .brk, out => exact out.elim
  | .ok .cont, out => exact out.elim
theorem pe_callG (F : FnG X.prog X.w X.K X.mg X.base CX k f fd ps sp) (hr : Room k X.A) (gu : X.A.guards = some []) (hg : Gl X x) (hm : X.mg x = some (.ref f)) (hk : PySem.W.keepIn X.K (.ref f) = true) (hb : Binds X.K fd ps [])
    (hx : ∀ σ, PassesAt CX X σ (E σ)) (ha : PA X (e :: es) t) (hdb : (x == ("__debug__" : Str)) = false := by decide)
    (he : starEach (e :: es) X.env = (false, eval e X.env) :: starEach es X.env := by rfl) (hpl : (backTo pos (starEach es X.env)).any (·.1) = false := by rfl) :
    PE X (.Call (.Name x p) (e :: es) [] pos) (tCallS sp E t) :=
  ⟨fun pins s σ _ _ I h => wpAny_Call_Name_kw (ld_glob I hg hm (PySem.W.callWith_K (h₀ := X.base) I.ok.mod.kin hk
    (thn (ha.run pos pins s σ _ _ I h) fun _ _ ⟨_, _, J, r, q⟩ => ⟨J.kIn, run_G F hr gu hb (hx σ) J r q⟩) he hpl) hdb)⟩
end
theorem passAt0 {X : Cx} (σ : L2.St) : PassesAt CX0 X σ (fun _ _ _ => False) := fun _ _ _ _ _ _ h => h.elim
theorem passAtL {X : Cx} (σ : L2.St) : PassesAt (L2.CX X.prog X.w) X σ (fun _ _ _ => False) := fun pins H s e s' I h => passL pins σ H s e s' I h
section
variable {P : Program} {w : World} {K : PySem.W.Frag} {mg mb : Str → Option Value} {CX : CXT}
theorem law_G {k : Nat} {fa a : Addr} {fd : FuncData} {x : Str} {sp : Sp} {s1 : Shared} {vs : List Value} {ns : List Int}
    (hin : K.In s1.heap) (glob : s1.heap.Ns mainGlobals mg) (blt : s1.heap.Ns builtinsNs mb) (bb : ∀ x : Str, x ≠ "__name__" → mb x = bootBuiltins x) (lim : s1.heap.NoLimit) (bare : s1.gens = #[])
    (scr : s1.heap.get? a = some { cls := .type "list", data := .seq vs.toArray }) (its : IntsAre vs ns) (few : ns.length ≤ sizeLine) (room : Room k callerA)
    (F : ∀ base : Heap, K.In base → base.Ns mainGlobals mg → FnG P w K mg base CX k fa fd [x] sp) (bd : ∀ (s : Shared) (u : Value), BindsTo s fd ⟨[u], []⟩ [(x, u)])
    (wish : ∀ H : Hp, Only H → SqL K H a (ns.map V.int) → sp [.ref a] H (fun v _ => v = .bl true) fun _ _ _ => False)
    (none_out : ∀ H e s', CX [] H s1 (fun _ _ _ => False) e s' → False) :
    codeAny (model P w) callerA (.call (.ref fa) ⟨[.ref a], []⟩) (fun r s' => r = .ok (.ret (.bool true)) ∧ OldK s1.heap s'.heap ∧ s'.os = s1.os ∧ AllBare s'.gens) s1 := by
  have rv := vals_ints its
  have go : ∀ H : Hp, Only H → SqL K H a (ns.map V.int) → HOk P w H s1.heap → (∀ b u, H b = some u → b = a ∧ K.lookup a = none) →
      codeAny (model P w) callerA (.call (.ref fa) ⟨[.ref a], []⟩) (fun r s' => r = .ok (.ret (.bool true)) ∧ OldK s1.heap s'.heap ∧ s'.os = s1.os ∧ AllBare s'.gens) s1 := by
    intro H only sq ok at_
    have free : ∀ {b : Addr}, (∀ u, H b = some u → False) → H b = none := fun {b} n => by
      cases q : H b with
      | none => rfl
      | some u => exact (n u q).elim
    have ns_ : ∀ {b : Addr} {m : Str → Option Value}, s1.heap.Ns b m → (hidT s1.heap H).Ns b m := fun {b m} ⟨o, es, ep, e, d, r⟩ => ⟨o, es, ep, hidT_get e (free fun u q => by
      obtain ⟨rfl, _⟩ := at_ b u q
      rw [scr] at e
      cases e
      have d' : Data.seq vs.toArray _ = Data.dict es ep := d
      cases d'), d, r⟩
    have kin : K.In (hidT s1.heap H) := fun b o e => hidT_get (hin b o e) (free fun u q => by
      obtain ⟨rfl, z⟩ := at_ b u q
      rw [z] at e
      cases e)
    have e0 : Env0 P w K mg (hidT s1.heap H) callerA [] s1 H :=
      ⟨rfl, ⟨kin, ns_ glob, ⟨mb, ns_ blt, bb⟩, lim.imp fun _ q => ⟨ns_ q.1, q.2⟩⟩, fun b o e => of_hidT e, Nat.le_of_eq (hidT_size _ _), trivial, fun b hb => (List.not_mem_nil hb).elim, ok, .of_eq bare⟩
    refine codeAny_mono ((F _ kin (ns_ glob)).run callerA [] s1 H ⟨[.ref a], []⟩ [.ref a] [.ref a] _ _ room rfl e0 (bd s1 (.ref a)) (.cons rfl .nil) (wish H only sq)) fun r s' out => ?_
    match r, out with
    | .error e, out => exact (none_out H e s' out).elim
    | .ok .next, out => exact out.elim
    | .ok .brk, out => exact out.elim
    | .ok .cont, out => exact out.elim
    | .ok (.ret u), ⟨v, H', os, gens, un, ok', r', q⟩ =>
      have q' : v = V.bl true := q
      subst q'
      obtain rfl : u = Value.bool true := r'
      refine ⟨rfl, OldK.of_keep fun b o e => ?_, os, gens⟩
      cases hb : H b with
      | none => exact un.keep b o e hb List.not_mem_nil List.not_mem_nil
      | some u =>
        rcases only b with z | ⟨ob, xs, z⟩
        · rw [z] at hb
          cases hb
        · have z2 := (ok' b _ (un.frzs b ob _ z)).1
          rw [(ok b _ z).1] at e
          cases e
          exact z2
  cases hk : K.lookup a with
  | some o =>
    have e := hin a o hk
    rw [scr] at e
    cases e
    exact go (fun _ => none) (fun _ => .inl rfl) (.inr ⟨_, vs.toArray, _, hk, rfl, rfl, rfl, by rw [List.size_toArray, its.length]; exact few, by simpa using rv⟩) (fun b u z => nomatch (show (none : Option HO) = some u from z)) fun b u z => nomatch (show (none : Option HO) = some u from z)
  | none =>
    have at_a : ∀ b u, (if b = a then some (HO.frz { cls := .type "list", data := .seq vs.toArray } (.lst (ns.map V.int))) else none) = some u → b = a ∧ u = HO.frz { cls := .type "list", data := .seq vs.toArray } (.lst (ns.map V.int)) := fun b u z => by
      split at z
      · exact ⟨by assumption, (Option.some.inj z).symm⟩
      · cases z
    refine go (fun b => if b = a then some (.frz { cls := .type "list", data := .seq vs.toArray } (.lst (ns.map V.int))) else none) (fun b => ?_) (.inl (.inr ⟨_, if_pos rfl⟩)) (fun b u z => ?_) fun b u z => ⟨(at_a b u z).1, hk⟩
    · by_cases hb : b = a
      · exact .inr ⟨_, _, if_pos hb⟩
      · exact .inl (if_neg hb)
    · obtain ⟨rfl, rfl⟩ := at_a b u z
      exact ⟨scr, by rw [List.length_map]; exact few, vs, _, rv, scr⟩
end
theorem walkG {l : PySem.W.OpenLaw} {n k : Nat} {q : Program} {loose : List Str} {XP : (Str → Option Value) → Heap → Prop} {YP : World → Heap → Prop} {d : DefRec} {K : Params → PySem.W.Frag} {CX : World → CXT} {sp : World → Sp} {x : Str}
    (hn : l.most = some n) (hn2 : n ≤ sizeLine) (hdf : d.params.defaults = []) (hr : Room k callerA)
    (hY : ∀ (w : World) (h : Heap), YP w h → (K w.params).In h)
    (F : ∀ (w : World) (mg : Str → Option Value) (fa : Addr) (h : Heap), (K w.params).In h → h.Ns mainGlobals mg → mg d.name = some (.ref fa) →
      ∃ fd : FuncData, (∀ (s : Shared) (u : Value), BindsTo s fd ⟨[u], []⟩ [(x, u)]) ∧
        ∀ base : Heap, (K w.params).In base → base.Ns mainGlobals mg → FnG l.prog w (K w.params) mg base (CX w) k fa fd [x] (sp w))
    (hsp : ∀ (w : World) (H : Hp) (a : Addr) (ns : List Int), ns.length ≤ n → (∀ z ∈ ns, Builtin.Int.intBits z ≤ 1048576) → Only H → SqL (K w.params) H a (ns.map V.int) → sp w [.ref a] H (fun v _ => v = .bl true) fun _ _ _ => False)
    (hCX : ∀ (w : World) (H : Hp) (s : Shared) (e : Value) (s' : Shared), CX w [] H s (fun _ _ _ => False) e s' → False) :
    PySem.W.WalkO q loose XP YP l.row.toRowW d [] (fun f vs => PySem.call f vs) := by
  refine Att.attach_callB hn hdf fun w s₀ s₁ mg mb fa o pm cd doc a vs ns G Y ho hd hcd hmg hobj hints hlen hbits hg => ?_
  obtain ⟨fd, hb, hF⟩ := F w mg fa _ (hY w _ Y) G.T.g hmg
  exact law_G (hY w _ Y) G.T.g G.T.b G.T.builtins G.T.nolimit hg hobj hints (Nat.le_trans hlen hn2) hr hF hb (fun H hO hS => hsp w H a ns hlen hbits hO hS) fun H e s' => hCX w H s₁ e s'
end Z
set_option maxRecDepth 100000
set_option maxHeartbeats 4000000
namespace Z
open PySem PySem.Spec PyProof.Rows L2
structure Bi (mg : Str → Option Value) : Prop where
  len : mg "len" = none
  max : mg "max" = none
  min : mg "min" = none
  int : mg "int" = none
  str : mg "str" = none
  tuple : mg "tuple" = none
  list : mg "list" = none
  bool : mg "bool" = none
  dict : mg "dict" = none
  set : mg "set" = none
  isinstance : mg "isinstance" = none
  sorted : mg "sorted" = none
  repr : mg "repr" = none
  range : mg "range" = none
  enumerate : mg "enumerate" = none
  zip : mg "zip" = none
  sum : mg "sum" = none
  all : mg "all" = none
  any : mg "any" = none
section
variable {X : Cx} {e : Expr} {es : List Expr} {t : TA} {p pos : Pos}
theorem CallR.or {f : Value} {r r' : List V → Hp → VK → Prop} (h : CallR X f r) (h' : CallR X f r') : CallR X f (fun xs H Q => r xs H Q ∨ r' xs H Q) := by
  intro pins s σ H xs us Q I rv q
  rcases q with q | q
  · exact h pins s σ H xs us Q I rv q
  · exact h' pins s σ H xs us Q I rv q
theorem CallR.box {f : Value} {r r' : List V → Hp → VK → Prop} (h : CallR X f r) (e : ∀ xs H Q, r' xs H Q → r xs H Q) : CallR X f r' := fun pins s σ H xs us Q I rv q => h pins s σ H xs us Q I rv (e _ _ _ q)
structure rLenA (K : PySem.W.Frag) (xs : List V) (H : Hp) (Q : VK) : Prop where
  h : (∃ p ys, xs = [.ref p] ∧ (SqL K H p ys ∨ SqT K H p ys) ∧ Q (.int ys.length) H) ∨ (∃ z, xs = [.str z] ∧ z.length ≤ sizeLine ∧ Q (.int z.length) H) ∨
  (∃ a kvs, xs = [V.ref a] ∧ H a = some (.dK kvs) ∧ Q (.int kvs.length) H)
theorem lenL {K : PySem.W.Frag} {p : Addr} {ys : List V} {H : Hp} {Q : VK} (h : SqL K H p ys) (q : Q (.int ys.length) H) : rLenA K [.ref p] H Q := ⟨.inl ⟨p, ys, rfl, .inl h, q⟩⟩
theorem lenT {K : PySem.W.Frag} {p : Addr} {ys : List V} {H : Hp} {Q : VK} (h : SqT K H p ys) (q : Q (.int ys.length) H) : rLenA K [.ref p] H Q := ⟨.inl ⟨p, ys, rfl, .inr h, q⟩⟩
theorem lenS {K : PySem.W.Frag} {z : Str} {H : Hp} {Q : VK} (h : z.length ≤ sizeLine) (q : Q (.int z.length) H) : rLenA K [.str z] H Q := ⟨.inr (.inl ⟨z, rfl, h, q⟩)⟩
theorem lenD {K : PySem.W.Frag} {a : Addr} {kvs : List (Key × V)} {H : Hp} {Q : VK} (h : H a = some (.dK kvs)) (q : Q (.int kvs.length) H) : rLenA K [.ref a] H Q := ⟨.inr (.inr ⟨a, kvs, rfl, h, q⟩)⟩
theorem cb_len (B : Bi X.mg) (ha : PA X (e :: es) t) (hg : Gl X "len" := by rfl) (he : starEach (e :: es) X.env = (false, eval e X.env) :: starEach es X.env := by rfl) (hpl : (backTo pos (starEach es X.env)).any (·.1) = false := by rfl) :
    PE X (.Call (.Name "len" p) (e :: es) [] pos) (tCB (rLenA X.K) t) := pe_callB (CallR.box (CallR.or call_len_seq (CallR.or call_len_str call_lenD)) fun _ _ _ q => q.h) hg B.len PySem.boot_len ha (he := he) (hpl := hpl)
structure rIntA (xs : List V) (H : Hp) (Q : VK) : Prop where
  h : ((∃ i, xs = [.int i] ∧ Q (.int i) H) ∨ ∃ k, xs = [.bl k] ∧ Q (.int (if k then 1 else 0)) H) ∨ ∃ a n, xs = [.str a] ∧ PySem.intText? a = some n ∧ a.length ≤ 640 ∧ Q (.int n) H
theorem intI {i : Int} {H : Hp} {Q : VK} (q : Q (.int i) H) : rIntA [.int i] H Q := ⟨.inl (.inl ⟨i, rfl, q⟩)⟩
theorem intB {k : Bool} {H : Hp} {Q : VK} (q : Q (.int (if k then 1 else 0)) H) : rIntA [.bl k] H Q := ⟨.inl (.inr ⟨k, rfl, q⟩)⟩
theorem intS {a : Str} {n : Int} {H : Hp} {Q : VK} (h : PySem.intText? a = some n) (hl : a.length ≤ 640) (q : Q (.int n) H) : rIntA [.str a] H Q := ⟨.inr ⟨a, n, rfl, h, hl, q⟩⟩
theorem cb_int (B : Bi X.mg) (ha : PA X (e :: es) t) (hg : Gl X "int" := by rfl) (he : starEach (e :: es) X.env = (false, eval e X.env) :: starEach es X.env := by rfl) (hpl : (backTo pos (starEach es X.env)).any (·.1) = false := by rfl) :
    PE X (.Call (.Name "int" p) (e :: es) [] pos) (tCB rIntA t) := pe_callTy (CallR.box (CallR.or call_int1 call_int_str) fun _ _ _ q => q.h) hg B.int PyProof.Rows.boot_int ha (he := he) (hpl := hpl)
structure rStrA (xs : List V) (H : Hp) (Q : VK) : Prop where
  h : (∃ i, xs = [.int i] ∧ i.natAbs.log2 < 1920 ∧ Q (.str (toString i)) H) ∨ ∃ a, xs = [.str a] ∧ Q (.str a) H
theorem strI {i : Int} {H : Hp} {Q : VK} (h : i.natAbs.log2 < 1920) (q : Q (.str (toString i)) H) : rStrA [.int i] H Q := ⟨.inl ⟨i, rfl, h, q⟩⟩
theorem strS {a : Str} {H : Hp} {Q : VK} (q : Q (.str a) H) : rStrA [.str a] H Q := ⟨.inr ⟨a, rfl, q⟩⟩
theorem cb_str (B : Bi X.mg) (ha : PA X (e :: es) t) (hg : Gl X "str" := by rfl) (he : starEach (e :: es) X.env = (false, eval e X.env) :: starEach es X.env := by rfl) (hpl : (backTo pos (starEach es X.env)).any (·.1) = false := by rfl) :
    PE X (.Call (.Name "str" p) (e :: es) [] pos) (tCB rStrA t) := pe_callTy (CallR.box (CallR.or call_str_int SkE.call_str_str) fun _ _ _ q => q.h) hg B.str PyProof.Rows.boot_str ha (he := he) (hpl := hpl)
structure rTupA (K : PySem.W.Frag) (xs : List V) (H : Hp) (Q : VK) : Prop where
  h : ∃ p ys, xs = [.ref p] ∧ ((SqL K H p ys ∧ ∀ l, H l = none → Q (.ref l) (upd H l (.tup ys))) ∨ (SqT K H p ys ∧ Q (.ref p) H))
theorem tupL {K : PySem.W.Frag} {p : Addr} {ys : List V} {H : Hp} {Q : VK} (h : SqL K H p ys) (q : ∀ l H1, H l = none → Same H H1 → H1 l = some (.tup ys) → Q (.ref l) H1) : rTupA K [.ref p] H Q := ⟨⟨p, ys, rfl, .inl ⟨h, new q⟩⟩⟩
theorem tupT {K : PySem.W.Frag} {p : Addr} {ys : List V} {H : Hp} {Q : VK} (h : SqT K H p ys) (q : Q (.ref p) H) : rTupA K [.ref p] H Q := ⟨⟨p, ys, rfl, .inr ⟨h, q⟩⟩⟩
theorem cb_tuple (B : Bi X.mg) (ha : PA X (e :: es) t) (hg : Gl X "tuple" := by rfl) (he : starEach (e :: es) X.env = (false, eval e X.env) :: starEach es X.env := by rfl) (hpl : (backTo pos (starEach es X.env)).any (·.1) = false := by rfl) :
    PE X (.Call (.Name "tuple" p) (e :: es) [] pos) (tCB (rTupA X.K) t) := pe_callTy (CallR.box call_tuple_of fun _ _ _ q => q.h) hg B.tuple PyProof.Rows.boot_tuple ha (he := he) (hpl := hpl)
structure rListA (K : PySem.W.Frag) (xs : List V) (H : Hp) (Q : VK) : Prop where
  h : ∃ p ys, xs = [.ref p] ∧ (SqL K H p ys ∨ SqT K H p ys) ∧ ∀ l, H l = none → Q (.ref l) (upd H l (.lst ys))
theorem listL {K : PySem.W.Frag} {p : Addr} {ys : List V} {H : Hp} {Q : VK} (h : SqL K H p ys ∨ SqT K H p ys) (q : ∀ l H1, H l = none → Same H H1 → H1 l = some (.lst ys) → Q (.ref l) H1) : rListA K [.ref p] H Q := ⟨⟨p, ys, rfl, h, new q⟩⟩
theorem cb_list (B : Bi X.mg) (ha : PA X (e :: es) t) (hg : Gl X "list" := by rfl) (he : starEach (e :: es) X.env = (false, eval e X.env) :: starEach es X.env := by rfl) (hpl : (backTo pos (starEach es X.env)).any (·.1) = false := by rfl) :
    PE X (.Call (.Name "list" p) (e :: es) [] pos) (tCB (rListA X.K) t) := pe_callTy (CallR.box call_list_of fun _ _ _ q => q.h) hg B.list PyProof.Rows.boot_list ha (he := he) (hpl := hpl)
structure rMaxA (K : PySem.W.Frag) (xs : List V) (H : Hp) (Q : VK) : Prop where
  h : (∃ i j, xs = [.int i, .int j] ∧ Q (.int (if j > i then j else i)) H) ∨ rMax K xs H Q
theorem max2 {K : PySem.W.Frag} {i j : Int} {H : Hp} {Q : VK} (q : Q (.int (if j > i then j else i)) H) : rMaxA K [.int i, .int j] H Q := ⟨.inl ⟨i, j, rfl, q⟩⟩
theorem cb_max (B : Bi X.mg) (ha : PA X (e :: es) t) (hc : X.calm = true := by rfl) (hg : Gl X "max" := by rfl) (he : starEach (e :: es) X.env = (false, eval e X.env) :: starEach es X.env := by rfl) (hpl : (backTo pos (starEach es X.env)).any (·.1) = false := by rfl) :
    PE X (.Call (.Name "max" p) (e :: es) [] pos) (tCB (rMaxA X.K) t) := pe_callB (CallR.box (CallR.or (call_max2 hc) (cr_max hc)) fun _ _ _ q => q.h) hg B.max PyProof.Rows.boot_max ha (he := he) (hpl := hpl)
structure rMinA (K : PySem.W.Frag) (xs : List V) (H : Hp) (Q : VK) : Prop where
  h : (∃ i j, xs = [.int i, .int j] ∧ Q (.int (if j < i then j else i)) H) ∨ rMin K xs H Q
theorem min2 {K : PySem.W.Frag} {i j : Int} {H : Hp} {Q : VK} (q : Q (.int (if j < i then j else i)) H) : rMinA K [.int i, .int j] H Q := ⟨.inl ⟨i, j, rfl, q⟩⟩
theorem boot_min_ : bootBuiltins "min" = some (.builtin "min") := by decide +kernel
theorem cb_min (B : Bi X.mg) (ha : PA X (e :: es) t) (hc : X.calm = true := by rfl) (hg : Gl X "min" := by rfl) (he : starEach (e :: es) X.env = (false, eval e X.env) :: starEach es X.env := by rfl) (hpl : (backTo pos (starEach es X.env)).any (·.1) = false := by rfl) :
    PE X (.Call (.Name "min" p) (e :: es) [] pos) (tCB (rMinA X.K) t) := pe_callB (CallR.box (CallR.or (call_min2 hc) (cr_min hc)) fun _ _ _ q => q.h) hg B.min boot_min_ ha (he := he) (hpl := hpl)
theorem boot_isi : bootBuiltins "isinstance" = some (.builtin "isinstance") := by decide +kernel
theorem cb_isi (B : Bi X.mg) (ha : PA X (e :: es) t) (hg : Gl X "isinstance" := by rfl) (he : starEach (e :: es) X.env = (false, eval e X.env) :: starEach es X.env := by rfl) (hpl : (backTo pos (starEach es X.env)).any (·.1) = false := by rfl) :
    PE X (.Call (.Name "isinstance" p) (e :: es) [] pos) (tCB (fun xs H Q => rIsi X.K xs H Q ∨ rIsiT X.K xs H Q) t) := pe_callB (CallR.or call_isi call_isiT) hg B.isinstance boot_isi ha (he := he) (hpl := hpl)
theorem isiTy {K : PySem.W.Frag} {x : V} {a b : String} {r : Bool} {H : Hp} {Q : VK} (h : TyX K H x (.type a)) (k : kitB a b = some r) (q : Q (.bl r) H) : rIsi K [x, .ty b] H Q ∨ rIsiT K [x, .ty b] H Q := .inl ⟨x, .ty b, .type a, .type b, r, rfl, .ty b, h, kit_ty k, q⟩
theorem isiOwn {K : PySem.W.Frag} {x : V} {t : Value} {C : Addr} {r : Bool} {H : Hp} {Q : VK} (h : TyX K H x t) (k : PySem.W.kitOne K t (.ref C) = some r) (q : Q (.bl r) H) : rIsi K [x, .ref C] H Q ∨ rIsiT K [x, .ref C] H Q := .inl ⟨x, .ref C, t, .ref C, r, rfl, .own C, h, k, q⟩
theorem gl_ty {x : Str} {n : String} (hg : Gl X x) (hm : X.mg x = none) (hv : bootBuiltins x = some (.type n)) (hn : x ≠ "__name__" := by decide) (hd : (x == ("__debug__" : Str)) = false := by decide) : PE X (.Name x p) (tC (.ty n)) := pe_bltn hg hm hv rfl hn hd
end
mutual
theorem dp_plain {K : PySem.W.Frag} {H : Hp} : ∀ {v : V} {d : PyData}, Dp K H v d → d.hasDict = false
  | _, _, .non => by simp only [PyData.hasDict]
  | _, _, .bl b => by simp only [PyData.hasDict]
  | _, _, .int i => by simp only [PyData.hasDict]
  | _, _, .str x => by simp only [PyData.hasDict]
  | _, _, .lst _ a => by simp only [PyData.hasDict]; exact dpAll_plain a
  | _, _, .tup _ a => by simp only [PyData.hasDict]; exact dpAll_plain a
theorem dpAll_plain {K : PySem.W.Frag} {H : Hp} : ∀ {vs : List V} {ds : List PyData}, DpAll K H vs ds → PyData.hasDictAll ds = false
  | _, _, .nil => by simp only [PyData.hasDictAll]
  | _, _, .cons h a => by simp only [PyData.hasDictAll, dp_plain h, dpAll_plain a, Bool.or_self]
end
section
variable {X : Cx} {e : Expr} {es : List Expr} {t : TA} {p pos : Pos}
structure rRepr (K : PySem.W.Frag) (xs : List V) (H : Hp) (Q : VK) : Prop where
  h : (∃ x d, xs = [x] ∧ Dp K H x d ∧ d.showable = true ∧ d.depth ≤ 60 ∧ d.shown.length ≤ sizeLine ∧ Q (.str d.shown) H) ∨ ∃ a, xs = [.ref a] ∧ H a = some (.dK []) ∧ Q (.str (PyData.dict []).shown) H
theorem reprD {K : PySem.W.Frag} {x : V} {d : PyData} {H : Hp} {Q : VK} (h : Dp K H x d) (h1 : d.showable = true) (h2 : d.depth ≤ 60) (h3 : d.shown.length ≤ sizeLine) (q : Q (.str d.shown) H) : rRepr K [x] H Q := ⟨.inl ⟨x, d, rfl, h, h1, h2, h3, q⟩⟩
theorem repr0 {K : PySem.W.Frag} {a : Addr} {H : Hp} {Q : VK} (h : H a = some (.dK [])) (q : Q (.str (PyData.dict []).shown) H) : rRepr K [.ref a] H Q := ⟨.inr ⟨a, rfl, h, q⟩⟩
theorem dict0_reads {X : Cx} {pins : List (Addr × Obj)} {σ : L2.St} {H : Hp} {s : Shared} {a : Addr} (I : Inv X pins σ H s) (h : H a = some (.dK [])) : Reads s.heap (.ref a) (.dict []) [a] ∧ (a == sysModules) = false := by
  obtain ⟨_, ns, vs, kv, hd⟩ : [].length ≤ sizeLine ∧ (a == sysModules) = false ∧ ∃ vs, KV ([] : List (Key × V)) vs ∧ s.heap.DictOf (mixKind X.prog X.w) a vs := I.hok a _ h
  cases kv
  obtain ⟨o, es, ep, ho, ed, de, _, pr, _⟩ := hd
  have e0 : es.toList = [] := by
    generalize es.toList = l at pr
    cases pr
    rfl
  have z1 : ReadsAll s.heap (es.toList.map (·.key)) [] [] := by rw [e0]; exact .nil
  have z2 : ReadsAll s.heap (es.toList.map (·.val)) [] [] := by rw [e0]; exact .nil
  exact ⟨Reads.dict (kvs := []) ho ed.1 de z1 z2, ns⟩
theorem call_repr {X : Cx} (gu : X.A.guards = some []) (hu : X.A.units + 64 < cLine) : CallR X (.builtin "repr") (rRepr X.K) := by
  intro pins s σ H xs us Q I r h
  rcases h.h with ⟨x, d, rfl, hd, sh, dp, sz, q⟩ | ⟨a, rfl, ha, q⟩
  rotate_left
  · obtain ⟨u, rfl, rx⟩ := vals1 r
    cases (show u = Value.ref a from rx)
    obtain ⟨rd, ns⟩ := dict0_reads I ha
    have dp : (PyData.dict []).depth = 1 := by simp [PyData.depth, PyData.depthKv]
    refine repr_of_reads' (h₀ := s.heap) rd (by simp [PyData.showable, PyData.showableKv]) (fun _ hm => ?_) gu (by rw [dp]; omega) (fun _ _ e => e) (fun h' w tk k => ⟨.str _, H, I.kept k, ⟨_, rfl⟩, q⟩) (by simp only [PyData.shown, PyData.shownKv]; decide +kernel)
    rw [List.mem_singleton] at hm
    rw [hm] at ns
    simp at ns
  obtain ⟨u, rfl, rx⟩ := vals1 r
  cases hd with
  | non =>
    cases (show u = Value.none from rx)
    refine PySem.P.repr_of_none ⟨.str _, H, I.tok _, ⟨_, rfl⟩, ?_⟩
    simpa only [PyData.shown] using q
  | bl b =>
    cases (show u = Value.bool b from rx)
    refine PySem.P.repr_of_bool ⟨.str _, H, I.tok _, ⟨_, rfl⟩, ?_⟩
    simpa only [PyData.shown] using q
  | int i =>
    obtain ⟨tk, rfl⟩ := (show ∃ t, u = Value.int i t from rx)
    refine PySem.P.repr_of_int (by simpa [PyData.showable] using sh) ⟨.str _, H, I.tok _, ⟨_, rfl⟩, ?_⟩
    simpa only [PyData.shown] using q
  | str y =>
    obtain ⟨tk, rfl⟩ := (show ∃ t, u = Value.str y t from rx)
    refine PySem.P.repr_of_str ⟨.str _, H, I.tok _, ⟨_, rfl⟩, ?_⟩ (by simpa only [PyData.shown] using sz)
    simpa only [PyData.shown] using q
  | @lst a ys ds hl ha =>
    cases (show u = Value.ref a from rx)
    obtain ⟨as, rd⟩ := Dp.reads I (.list ds) (.ref a) (.ref a) (.lst hl ha) rfl
    exact repr_of_reads' (h₀ := s.heap) rd sh (PyData.noDict_hsm (dp_plain (K := X.K) (H := H) (.lst hl ha))) gu (by omega) (fun _ _ e => e) (fun h' w tk k => ⟨.str _, H, I.kept k, ⟨_, rfl⟩, q⟩) sz
  | @tup a ys ds hl ha =>
    cases (show u = Value.ref a from rx)
    obtain ⟨as, rd⟩ := Dp.reads I (.tuple ds) (.ref a) (.ref a) (.tup hl ha) rfl
    exact repr_of_reads' (h₀ := s.heap) rd sh (PyData.noDict_hsm (dp_plain (K := X.K) (H := H) (.tup hl ha))) gu (by omega) (fun _ _ e => e) (fun h' w tk k => ⟨.str _, H, I.kept k, ⟨_, rfl⟩, q⟩) sz
theorem cb_repr (B : Bi X.mg) (gu : X.A.guards = some []) (hu : X.A.units + 64 < cLine) (ha : PA X (e :: es) t) (hg : Gl X "repr" := by rfl) (he : starEach (e :: es) X.env = (false, eval e X.env) :: starEach es X.env := by rfl) (hpl : (backTo pos (starEach es X.env)).any (·.1) = false := by rfl) :
    PE X (.Call (.Name "repr" p) (e :: es) [] pos) (tCB (rRepr X.K) t) := pe_callB (call_repr gu hu) hg B.repr PyProof.Rows.boot_repr ha (he := he) (hpl := hpl)
end
end Z
set_option maxRecDepth 100000
set_option maxHeartbeats 4000000
namespace Z
open PySem PySem.Spec PyProof.Rows L2
open PySem.W PySem.Calls PySem.HandSPX
def xiA (f : Str) (p1 p2 : Pos) : Arguments := { posonlyargs := [], args := [{ arg := "self", annotation := none, pos := p1 }, { arg := f, annotation := none, pos := p2 }], vararg := none, kwonlyargs := [], kw_defaults := [], kwarg := none, defaults := [] }
def xiB (f m : Str) (j : Nat) (p0 p1 p2 p3 p4 p5 q1 q2 q3 q4 : Pos) : List Stmt :=
  [.Expr (.Call (.Attribute (.Call (.Name "super" p0) [] [] p1) "__init__" p2) [.Constant (.str m) j p3] [] p4) p5, .Assign [.Attribute (.Name "self" q1) f q2] (.Name f q3) q4]
def xiS (f : Str) : Scope := { kind := .function, names := [("self", .local), (f, .local), ("__class__", .free), ("super", .globalImplicit)], isGenerator := false, isCoroutine := false, more := [] }
def IsInit (f qual : Str) (fd : FuncData) : Prop := ∃ (kV doc pm cdv ct : Value) (an : Option Addr) (cc : Addr) (m : Str) (j : Nat) (p1 p2 q0 q1 q2 q3 q4 q5 r1 r2 r3 r4 : Pos),
  fd = fnX "__init__" qual (xiA f p1 p2) (xiB f m j q0 q1 q2 q3 q4 q5 r1 r2 r3 r4) (xiS f) [("__class__", cc)] .none kV doc pm an cdv ct
structure Tied (prog : Program) (K : Frag) (mg : Str → Option Value) (x f qual : Str) (C fI : Addr) : Prop where
  gC : mg x = some (.ref C)
  cls : ∃ nm q N bs bm sn sub ab col dd k0 k1 k2 k3 k5, K.lookup C = some (excClassObj nm q C N bs bm true sn sub ab col dd k0 k1 k2 k3 k5 "ValueError.__new__") ∧ refsVE bm = true
  sa : findIn K (.ref C) "__setattr__" = some (some (.builtin "object.__setattr__"))
  noN : findIn K (.ref C) f = some none
  iC : findIn K (.ref C) "__init__" = some (some (.ref fI))
  tC : typeIn K (.ref fI) = some (.type "function")
  kC : keepIn K (.ref C) = true
  exC : subIn K (.ref C) (.type "BaseException") = some true
  isV : subIn K (.ref C) (.type "ValueError") = some true
  tyC : typeIn K (.ref C) = some (.type "type")
  xf : XfC K C
  fn : ∃ (oc : Value) (od : Option Addr) (kV doc pm : Value) (an : Option Addr) (cda cc : Addr) (ct : Value) (osl : Array (Option Value)) (m : Str) (j : Nat) (p1 p2 q0 q1 q2 q3 q4 q5 r1 r2 r3 r4 : Pos) (ccl : Value) (cdd : Option Addr) (vs : Array Value) (ccs : Array (Option Value)) (file : Str) (tf : Tok) (cl : Value) (cld : Option Addr) (csl : Array (Option Value)),
    K.lookup fI = some ⟨oc, od, .func (fnX "__init__" qual (xiA f p1 p2) (xiB f m j q0 q1 q2 q3 q4 q5 r1 r2 r3 r4) (xiS f) [("__class__", cc)] .none kV doc pm an (.ref cda) ct), osl⟩ ∧ codeIn K (.ref cda) qual = true ∧
    K.lookup cda = some ⟨ccl, cdd, .fields vs, ccs⟩ ∧ vs[2]? = some (.str file tf) ∧ ((prog.main.file : Str) == file) = true ∧ (q2.endLine == q4.line) = true ∧ K.lookup cc = some ⟨cl, cld, .cell (some (.ref C)), csl⟩
  sup : mg "super" = none
  top : (prog.main.scope.names.lookup ("super" : Str)).isSome = false
  self : mroIn K C (.ref C) = some true
  up : ks_superIn K C C "__init__" = some (some (.builtin "ValueError.__init__"))
  opq : nsIn K cStatics "thirdparty.any" = some none
  nf : f ≠ "self"
  nsup : f ≠ "super"
  ncls : f ≠ "__class__"
  ndb : f ≠ "__debug__"
  bd : ∀ (fd : FuncData) (a v : Value), IsInit f qual fd → bindArgs fd ⟨[a, v], []⟩ = pure ([("self", a), (f, v)] : List (Str × Value))
theorem bd_value {qual : Str} (fd : FuncData) (a v : Value) (h : IsInit "value" qual fd) : bindArgs fd ⟨[a, v], []⟩ = pure ([("self", a), ("value", v)] : List (Str × Value)) := by
  obtain ⟨kV, doc, pm, cdv, ct, an, cc, m, j, p1, p2, q0, q1, q2, q3, q4, q5, r1, r2, r3, r4, rfl⟩ := h
  with_unfolding_all rfl
theorem bd_part {qual : Str} (fd : FuncData) (a v : Value) (h : IsInit "part" qual fd) : bindArgs fd ⟨[a, v], []⟩ = pure ([("self", a), ("part", v)] : List (Str × Value)) := by
  obtain ⟨kV, doc, pm, cdv, ct, an, cc, m, j, p1, p2, q0, q1, q2, q3, q4, q5, r1, r2, r3, r4, rfl⟩ := h
  with_unfolding_all rfl
theorem bd_index {qual : Str} (fd : FuncData) (a v : Value) (h : IsInit "index" qual fd) : bindArgs fd ⟨[a, v], []⟩ = pure ([("self", a), ("index", v)] : List (Str × Value)) := by
  obtain ⟨kV, doc, pm, cdv, ct, an, cc, m, j, p1, p2, q0, q1, q2, q3, q4, q5, r1, r2, r3, r4, rfl⟩ := h
  with_unfolding_all rfl
theorem bd_many {qual : Str} (fd : FuncData) (a v : Value) (h : IsInit "many" qual fd) : bindArgs fd ⟨[a, v], []⟩ = pure ([("self", a), ("many", v)] : List (Str × Value)) := by
  obtain ⟨kV, doc, pm, cdv, ct, an, cc, m, j, p1, p2, q0, q1, q2, q3, q4, q5, r1, r2, r3, r4, rfl⟩ := h
  with_unfolding_all rfl
theorem bd_line {qual : Str} (fd : FuncData) (a v : Value) (h : IsInit "line" qual fd) : bindArgs fd ⟨[a, v], []⟩ = pure ([("self", a), ("line", v)] : List (Str × Value)) := by
  obtain ⟨kV, doc, pm, cdv, ct, an, cc, m, j, p1, p2, q0, q1, q2, q3, q4, q5, r1, r2, r3, r4, rfl⟩ := h
  with_unfolding_all rfl
theorem bd_most {qual : Str} (fd : FuncData) (a v : Value) (h : IsInit "most" qual fd) : bindArgs fd ⟨[a, v], []⟩ = pure ([("self", a), ("most", v)] : List (Str × Value)) := by
  obtain ⟨kV, doc, pm, cdv, ct, an, cc, m, j, p1, p2, q0, q1, q2, q3, q4, q5, r1, r2, r3, r4, rfl⟩ := h
  with_unfolding_all rfl
theorem bd_who {qual : Str} (fd : FuncData) (a v : Value) (h : IsInit "who" qual fd) : bindArgs fd ⟨[a, v], []⟩ = pure ([("self", a), ("who", v)] : List (Str × Value)) := by
  obtain ⟨kV, doc, pm, cdv, ct, an, cc, m, j, p1, p2, q0, q1, q2, q3, q4, q5, r1, r2, r3, r4, rfl⟩ := h
  with_unfolding_all rfl
theorem one_sz (v : Value) : [v].length ≤ sizeLine := by
  rw [sizeLine_eq]
  exact (by decide : 1 ≤ 16777216)
theorem boot_super_ : bootBuiltins "super" = some (.type "super") := by decide +kernel
theorem eqs_ne {a b : Str} (h : a ≠ b) : (b == a) = false := by
  rw [beq_eq_false_iff_ne]
  exact fun e => h e.symm
section
variable {prog : Program} {w : World} {A : Around} {E : Value → Shared → Prop} {R : Result → Shared → Prop} {s : Shared} {K : Frag} {mg mb : Str → Option Value} {x f qual : Str} {C fI : Addr}
theorem xiS_f (h1 : f ≠ "self") : (xiS f).names.lookup f = some .local := by
  unfold xiS
  simp [List.lookup, beq_eq_false_iff_ne.mpr h1]
theorem xiS_self : (xiS f).names.lookup ("self" : Str) = some .local := rfl
theorem xiS_cls (h2 : f ≠ "__class__") : (xiS f).names.lookup ("__class__" : Str) = some .free := by
  unfold xiS
  have a : (("__class__" : Str) == f) = false := eqs_ne h2
  have b : (("__class__" : Str) == ("self" : Str)) = false := by decide
  simp [List.lookup, a, b]
theorem xiS_super (h2 : f ≠ "super") : (xiS f).names.lookup ("super" : Str) = some .globalImplicit := by
  unfold xiS
  have a : (("super" : Str) == f) = false := eqs_ne h2
  have b : (("super" : Str) == ("self" : Str)) = false := by decide
  have c : (("super" : Str) == ("__class__" : Str)) = false := by decide
  simp [List.lookup, a, b, c]
theorem call_tree {o : Expr} {name : Str} {apos pos : Pos} {e : Expr} {env : Env} (h : (apos.endLine == pos.line) = true) (hs : starEach [e] env = (false, eval e env) :: starEach [] env) :
    eval (.Call (.Attribute o name apos) [e] [] pos) env = (do
        let ov ← attributeBase o name env (eval o env)
        standAt apos.atName
        let (f, first) ← holding [ov] (getMethod ov name (do return (← importBound o env).getD true))
        callWith pos f first (backTo pos (starEach [e] env)) []) := by
  show (attributeBase o name env (eval o env) >>= fun ov => standAt apos.atName >>= fun _ => methodCall o name apos pos env ov 1 (backTo pos (starEach [e] env)) (backToKw pos (keywordEach [] env))) = _
  rw [hs]
  unfold methodCall methodCallPos
  have hf : methodCallForm 1 (backTo pos ((false, eval e env) :: starEach [] env)) (backToKw pos (keywordEach [] env)) = true := by rfl
  rw [hf]
  simp only [h, calleeOf, Bool.not_true, Bool.false_or, if_true, pure_bind]
  rfl
theorem tied_up {h : Heap} {g : Array GenState} {d : Drawn} {t : Nat} {os : OsState} {nm q : Str} {N u e t0 : Addr} {bs bm : List Value} {hdct : Bool} {sn : List Str} {sub : List Value} {ab : Bool} {col : Option Bool} {dd : Option Addr} {k0 k1 k2 k3 k5 : Option Value} {B newId initId : String} {bmB : List Value} (FB : ExcBaseFacts B newId initId bmB)
    {rest : List Value} {Q : Value → Shared → Prop}
    (hC : h.get? C = some (excClassObj nm q C N bs bm hdct sn sub ab col dd k0 k1 k2 k3 k5 newId)) (he : h.get? e = some (excO C t0)) (hu : h.get? u = some (kxs_mw initId e)) (hz : rest.length ≤ sizeLine)
    (hq : ∀ h' t1, (∀ b o, b ≠ e → h.get? b = some o → h'.get? b = some o) → h'.get? e = some (excO C t1) → Q .none ⟨h', g, d, t, os⟩) :
    wpAny (model prog w) A (call (.ref u) rest) Q E ⟨h, g, d, t, os⟩ := by
  refine wpAny_call (codeAny_of_tree ?_)
  show wpAny _ A.in1 (callAny (.ref u) ⟨rest, []⟩) _ _ _
  simp only [callAny]
  refine wpAny_bind (wpAny_load hu ?_)
  simp only [kxs_mw, show (Value.type "method-wrapper" == Value.type "method" || Value.type "method-wrapper" == Value.type "builtin_function_or_method" || Value.type "method-wrapper" == Value.type "method-wrapper") = true by decide, if_true]
  refine KFB.if_so (by decide) ?_
  refine wpAny_bind (check_bound_init FB.toExcCallFacts hC he rfl ?_)
  refine wpAny_bind (wpAny_pure (wpAny_pure ?_))
  refine ⟨plainId_quiet FB.init.plain _, codeAny_builtin FB.initEntry ?_⟩
  exact exc_init_tree (cls := .ref C) (t0 := t0) (dv := none) (c2 := .none) (c3 := .none) (b4 := .bool false) he hz fun h' k e' _ => hq h' h.objs.size k e'
theorem tied_init (T : Tied prog K mg x f qual C fI) {e t0 : Addr} {v : Value} {args : Args} (X : K.In s.heap) (hlim : s.heap.NoLimit) (glob : s.heap.Ns mainGlobals mg) (blt : s.heap.Ns builtinsNs mb) (bb : ∀ y : Str, y ≠ "__name__" → mb y = bootBuiltins y)
    (he : s.heap.get? e = some (excO C t0)) (hnx : K.lookup e = none) (hroom : A.depth < recursionLimit) (hb : ∀ fd, IsInit f qual fd → BindsTo s fd args [("self", .ref e), (f, v)])
    (hq : ∀ h' tk dx t1, (∀ b o, b ≠ e → s.heap.get? b = some o → h'.get? b = some o) → h'.get? e = some { cls := .ref C, dict := some dx, data := .fields #[.ref t1, .none, .none, .none, .bool false, .none] } → s.heap.objs.size ≤ dx → dx ≠ e →
      h'.Ns1 dx (fun y => if y = f then some v else none) → R (.ok (.ret .none)) { s with heap := h', toks := tk }) :
    codeAny (model prog w) A (.call (.ref fI) args) R s := by
  obtain ⟨oc, od, kV, doc, pm, an, cda, cc, ct, osl, m, j, p1, p2, q0, q1, q2, q3, q4, q5, r1, r2, r3, r4, ccl, cdd, vs, ccs, file, tf, cl, cld, csl, lk, code, lkc, hvs, hfile, hline, lcell⟩ := T.fn
  obtain ⟨nm, q, N, bs, bm, sn, sub, ab, col, dd, k0, k1, k2, k3, k5, hC, hbm⟩ := T.cls
  have hcl : clsIn K C = some { name := nm, bases := bs, mro := .ref C :: bm, ns := N, qualname := q, hasDict := true, slotNames := sn, subclasses := sub, abstract := ab, collection := col, hasDel := false } := by unfold clsIn; rw [hC] <;> rfl
  have lsf := xiS_f (f := f) T.nf
  have lcs := xiS_cls (f := f) T.ncls
  have lsu := xiS_super (f := f) T.nsup
  refine ks_codeAny_call_defAt (fd := fnX "__init__" qual (xiA f p1 p2) (xiB f m j q0 q1 q2 q3 q4 q5 r1 r2 r3 r4) (xiS f) [("__class__", cc)] .none kV doc pm an (.ref cda) ct) (body := xiB f m j q0 q1 q2 q3 q4 q5 r1 r2 r3 r4) (binds := [("self", .ref e), (f, v)])
    hroom (X _ _ lk) rfl hlim (codeRec_of X code) rfl (hb _ ⟨kV, doc, pm, .ref cda, ct, an, cc, m, j, p1, p2, q0, q1, q2, q3, q4, q5, r1, r2, r3, r4, rfl⟩) (fun y hy => ?_) (fun y hy => ?_) (fun h1 hns kk => ?_) rfl rfl rfl
  · simp only [xiS, List.mem_cons, List.not_mem_nil, or_false] at hy
    rcases hy with rfl | rfl | rfl | rfl <;> (intro z; cases z)
  · simp only [List.mem_cons, List.not_mem_nil, or_false] at hy
    rcases hy with rfl | rfl
    · exact rfl
    · exact lsf
  have X1 : K.In h1 := X.keeps kk
  have he1 := kk _ _ he
  have hself : ([(("self" : Str), Value.ref e), (f, v)].reverse).lookup ("self" : Str) = some (.ref e) := by
    simp [List.lookup, eqs_ne T.nf]
  have hval : ([(("self" : Str), Value.ref e), (f, v)].reverse).lookup f = some v := by
    simp [List.lookup]
  generalize hm : (fun y => ([(("self" : Str), Value.ref e), (f, v)].reverse).lookup y) = m0 at hns
  have e1 : m0 ("self" : Str) = some (.ref e) := by rw [← hm]; exact hself
  have e2 : m0 f = some v := by rw [← hm]; exact hval
  have hlt := hns.lt
  have hLe : s.heap.objs.size ≠ e := Nat.ne_of_gt (Heap.lt_size he)
  refine ks_wpAt_execs_cons (ks_wpAt_Expr_any (ks_wpAt_MethodCall ?h1 (call_tree hline rfl)) rfl rfl)
  case h1 =>
    refine ks_wpAt_super_base (env := callEnv (fnX "__init__" qual (xiA f p1 p2) (xiB f m j q0 q1 q2 q3 q4 q5 r1 r2 r3 r4) (xiS f) [("__class__", cc)] .none kV doc pm an (.ref cda) ct) s.heap.objs.size fI) lsu lcs rfl rfl (X1 _ _ lk) rfl rfl rfl (X1 _ _ lkc) rfl hvs hfile T.top ?_
    refine ks_loadName_global rfl lsu (loadGlobal_builtin (glob.keeps kk) T.sup (blt.keeps kk) ((bb _ (by decide)).trans boot_super_) ⟨rfl, ?_⟩)
    refine wpAny_loadName_free rfl lcs rfl ⟨_, X1 _ _ lcell, rfl⟩ ?_
    refine wpAny_loadName_local rfl xiS_self hns e1 ?_
    refine ks_wpAny_isType_cls (X1 _ _ hC) rfl ⟨rfl, ?_⟩
    refine ks_wpAny_call_super (X1 _ _ hC) rfl he1 rfl (fun c z => by cases z) (looks_mroIn X1 T.self) (fun h2 hso k2 => ?_)
    have X2 : K.In h2 := X1.keeps k2
    have hxC : e ≠ C := fun z => by
      rw [z] at hnx
      rw [hnx] at hC
      cases hC
    have I2 : InstAt h2 e (excO C t0) C none := ⟨k2 _ _ he1, rfl, rfl, trivial⟩
    have hup := T.up
    unfold ks_superIn at hup
    rw [hcl] at hup
    refine kxs_getMethod kxs_ValueError hso (looks_opaque X2 T.opq) (l₀ := .ref C :: bm) ?_ rfl X2 hup (I2.type.andThen (looks_subIn X2 T.isV)) hxC (by decide) ?_
    · exact fun A Q E s k q => wpAny_bind ((looks_clsIn X2 hcl) A _ E s k (wpAny_pure q))
    refine kxs_callWith (i := "ValueError.__init__") (x := e) rfl (evalArgs_plain (Calls.spliced_cons (Calls.Constant_str (k := j) (pos := q3) (Calls.spliced_nil ⟨Heap.get?_push_at rfl rfl, ?_⟩))))
    refine tied_up (C := C) PySem.F.excBase_ValueError (Heap.get?_push_of_some _ (X2 _ _ hC)) (Heap.get?_push_of_some _ I2.at_) (Heap.get?_push_at rfl rfl) (one_sz _) fun h3 t1 k3 he3 => ?_
    have k23 : ∀ b o, b ≠ e → h2.get? b = some o → h3.get? b = some o := fun b o hb z => k3 b o hb (Heap.get?_push_of_some _ z)
    have k13 : ∀ b o, b ≠ e → h1.get? b = some o → h3.get? b = some o := fun b o hb z => k23 b o hb (k2 b o z)
    have X3 : K.In h3 := fun b o z => k13 b o (fun y => by rw [y, hnx] at z; cases z) (X1 _ _ z)
    have hns3 : h3.Ns s.heap.objs.size m0 := by
      obtain ⟨oL, es, ep, hL, r⟩ := hns
      exact ⟨oL, es, ep, k13 _ _ hLe hL, r⟩
    show PySem.wpAt _ _ _ (execs _ _) _ _ _
    refine ks_wpAt_execs_cons (ks_wpAt_Assign_Attr ?_ rfl)
    refine wpAt_of_wpAny (wpAny_Name (wpAny_loadName_local rfl lsf hns3 e2 ?_) (eqs_ne T.ndb.symm))
    refine wpAny_Name (wpAny_loadName_local rfl xiS_self hns3 e1 ?_) (by decide)
    refine set_plain X3 (ox := excO C t1) (od := none) ⟨he3, rfl, rfl, trivial⟩ T.sa ?_
    refine exc_osa X3 he3 hcl (show refsVE (.ref C :: bm) = true from hbm) rfl T.noN (fun h4 tk4 dx k4 dn dne he4 hn4 => ?_)
    show PySem.wpAt _ _ _ (execs _ _) _ _ _
    refine wpAt_of_wpAny (wpAny_execs_nil ?_)
    have z3 : s.heap.objs.size < h3.objs.size := hns3.lt
    exact hq h4 tk4 dx t1 (fun b o hb z => k4 b o hb (k13 b o hb (kk b o z))) he4 (Nat.le_of_lt (Nat.lt_of_lt_of_le z3 dn)) dne hn4
structure Made (f : Str) (h h' : Heap) (e C d : Addr) (v : Value) : Prop where
  keep : ∀ b o, h.get? b = some o → h'.get? b = some o
  new : h.objs.size ≤ e
  obj : ∃ t1 : Addr, h'.get? e = some { cls := .ref C, dict := some d, data := .fields #[.ref t1, .none, .none, .none, .bool false, .none] }
  dbig : h.objs.size ≤ d
  dne : d ≠ e
  ns : h'.Ns1 d (fun y => if y = f then some v else none)
theorem tied_made (T : Tied prog K mg x f qual C fI) {v : Value} (X : K.In s.heap) (hlim : s.heap.NoLimit) (glob : s.heap.Ns mainGlobals mg) (blt : s.heap.Ns builtinsNs mb) (bb : ∀ y : Str, y ≠ "__name__" → mb y = bootBuiltins y) (hroom : A.depth + 1 < recursionLimit)
    (hq : ∀ h' tk e d, Made f s.heap h' e C d v → R (.ok (.ret (.ref e))) { s with heap := h', toks := tk }) :
    codeAny (model prog w) A (.call (.ref C) ⟨[v], []⟩) R s := by
  obtain ⟨nm, q, N, bs, bm, sn, sub, ab, col, dd, k0, k1, k2, k3, k5, hC, hbm⟩ := T.cls
  obtain ⟨hp, g, dr, tk, os⟩ := s
  have k : ∀ b o, hp.get? b = some o → ((hp.push (kdv_tup [v])).push (excO C hp.objs.size)).get? b = some o := fun b o e => Heap.get?_push_of_some _ (Heap.get?_push_of_some _ e)
  have hget : ((hp.push (kdv_tup [v])).push (excO C hp.objs.size)).get? (hp.objs.size + 1) = some (excO C hp.objs.size) := by heap_get
  have hnx : K.lookup (hp.objs.size + 1) = none := by
    cases e : K.lookup (hp.objs.size + 1) with
    | none => rfl
    | some o =>
      have z : hp.get? (hp.objs.size + 1) = some o := X _ _ e
      exact absurd (Nat.lt_of_succ_lt (Heap.lt_size z)) (Nat.lt_irrefl _)
  refine HandSPX.call_own PySem.F.excBase_ValueError (fun X => refsVE_contains X bm hbm) (X _ _ hC) (looks_findIn X T.iC) (fun self => bind_fn X self T.tC) (one_sz v) ?_
  refine tied_init (s := ⟨(hp.push (kdv_tup [v])).push (excO C hp.objs.size), g, dr, tk, os⟩) T (X.keeps k) (hlim.keeps k) (glob.keeps k) (blt.keeps k) bb hget hnx ?_ (fun fd hf => .of_eq (T.bd fd _ _ hf)) fun h' tk' dx t1 k' hx dn dne hns => ?_
  · show A.depth + 1 < recursionLimit
    exact hroom
  · have old : ∀ b o, hp.get? b = some o → h'.get? b = some o := fun b o e => k' b o (Nat.ne_of_lt (Nat.lt_succ_of_lt (Heap.lt_size e))) (k b o e)
    have z : hp.objs.size + 1 + 1 ≤ dx := by
      have q := dn
      rw [Heap.size_push, Heap.size_push] at q
      exact q
    exact ⟨rfl, hq h' tk' (hp.objs.size + 1) dx ⟨old, Nat.le_succ _, ⟨t1, hx⟩, Nat.le_trans (Nat.le_trans (Nat.le_succ _) (Nat.le_succ _)) z, dne, hns⟩⟩
end
theorem relO_one {g : Str} {v : V} {v' : Value} (r : RelV v v') (f : Str) : RelO (List.lookup f [(g, v)]) (if f = g then some v' else none) := by
  by_cases hw : f = g
  · subst hw
    rw [if_pos rfl]
    have q : List.lookup f [(f, v)] = some v := by simp [List.lookup]
    rw [q]
    exact r
  · rw [if_neg hw]
    have q2 : List.lookup f [(g, v)] = none := by simp [List.lookup, beq_eq_false_iff_ne.mpr hw]
    rw [q2]
    trivial
section
variable {X : Cx} {x f qual : Str} {C fI : Addr} {p pos : Pos} {e : Expr} {te : TA}
def tMkT (C : Addr) (f : Str) (ta : TA) : L2.St → Hp → XK → Prop := fun σ H Q => ta σ H fun vs H1 => ∃ v, vs = [v] ∧ ∀ d, H1 d = none → Q (.ref C) (some d) (upd H1 d (.xd [(f, v)]))
theorem pmk_tied {k : Nat} (T : Tied X.prog X.K X.mg x f qual C fI) (hr : Room k X.A) (ha : PA X [e] te) (hg : Gl X x := by rfl) (hdb : (x == ("__debug__" : Str)) = false := by decide)
    (he : starEach (e :: []) X.env = (false, eval e X.env) :: starEach [] X.env := by rfl) (hpl : (backTo pos (starEach [] X.env)).any (·.1) = false := by rfl) :
    PMk X (.Call (.Name x p) [e] [] pos) (tMkT C f te) := by
  intro pins s σ H Q I h
  refine wpAny_Call_Name_kw (ld_glob I hg T.gC ?_ hdb)
  refine PySem.W.callWith_K (h₀ := X.base) I.ok.mod.kin T.kC (thn (ha.run pos pins s σ H _ I h) fun us s1 hh => ?_) he hpl
  obtain ⟨vs, H1, I1, r1, v, ev, q1⟩ := hh
  subst ev
  refine ⟨I1.kIn, ?_⟩
  cases r1 with
  | cons rv rn =>
    rename_i v' us'
    cases rn
    show wpAny _ _ (call (.ref C) [v']) _ _ _
    obtain ⟨mb, blt, bb⟩ := I1.mod.blt
    have lim := I1.nolimit
    have glob := I1.mod.glob.keeps I1.bk
    have blt1 := blt.keeps I1.bk
    obtain ⟨hp, g, dr, tk, os⟩ := s1
    refine wpAny_call (tied_made T I1.kIn lim glob blt1 bb (by have := hr.dp; omega) fun h' tk' e d M => ?_)
    show MkP X pins σ Q (.ref e) ⟨h', g, dr, tk', os⟩
    obtain ⟨t1, hoe⟩ := M.obj
    have hns := M.ns
    obtain ⟨G', g1, g2⟩ := restrict h' fun b => decide (b ≠ e)
    have gk : ∀ b, b ≠ e → G'.get? b = h'.get? b := fun b hb => g1 b (decide_eq_true hb)
    have ge : G'.get? e = none := g2 e (by simp)
    have old : ∀ b o, hp.get? b = some o → G'.get? b = some o := fun b o q => (gk b (Nat.ne_of_lt (Nat.lt_of_lt_of_le (Heap.lt_size q) M.new))).trans (M.keep b o q)
    have ob : ObjOk X.prog X.w (upd H1 d (.xd [(f, v)])) G' d (.xd [(f, v)]) := ⟨_, hns.at (fun o q => (gk d M.dne).trans q), fun y => relO_one rv y⟩
    have J : Inv X pins σ (upd H1 d (.xd [(f, v)])) ⟨G', g, dr, tk', os⟩ := I1.laid (t' := tk') old M.dbig ob
    refine ⟨e, _, _, ⟨G', g, dr, tk', os⟩, _, .ref C, some d, rfl, J, fun b o q => ?_, ge, hoe, ⟨rfl, rfl⟩, rfl, rfl, ?_, rfl, I1.bare, raises_own T.exC T.tyC, q1 d (I1.hok.fresh M.dbig)⟩
    · by_cases hb : b = e
      · have q' : G'.get? b = some o := q
        rw [hb, ge] at q'
        cases q'
      · exact (gk b hb).symm.trans q
    · rw [upd_ne (Ne.symm M.dne)]
      exact I1.hok.fresh M.new
theorem ps_raiseT {W : WX} {k : Nat} {pos2 : Pos} (tk : Takes X W) (T : Tied X.prog X.K X.mg x f qual C fI) (hr : Room k X.A) (ha : PA X [e] te) (hc : X.calm = true := by rfl) (hg : Gl X x := by rfl) (hdb : (x == ("__debug__" : Str)) = false := by decide)
    (he : starEach (e :: []) X.env = (false, eval e X.env) :: starEach [] X.env := by rfl) (hpl : (backTo pos (starEach [] X.env)).any (·.1) = false := by rfl) :
    PS X (.Raise (some (.Call (.Name x p) [e] [] pos)) none pos2) (fun _ σ H => tMkT C f te σ H fun cls d H' => W cls d σ H') := ps_raise hc tk (pmk_tied T hr ha hg hdb he hpl)
end
end Z
set_option maxRecDepth 100000
set_option maxHeartbeats 4000000
set_option pp.maxSteps 500
namespace L2
open PySem PySem.Spec PyProof.Rows
def wManyN (K : PySem.W.Frag) (i : Nat) (Wout : WX) (D : Ends) : List (Value × (Addr → Value → Option Addr → TS)) → WX
  | [] => Wout
  | (c, ts) :: r => wAs K c i ts (wManyN K i Wout D r) D
inductive HdsN (X : Cx) (n : Str) : List ExceptHandler → List (Value × (Addr → Value → Option Addr → TS)) → Prop
  | nil : HdsN X n [] []
  | cons {x : Str} {c : Value} {ts : Addr → Value → Option Addr → TS} {b₀ : Stmt} {suite : List Stmt} {np pos' : Pos} {hds : List ExceptHandler} {l : List (Value × (Addr → Value → Option Addr → TS))} (hc : Names X x c)
      (hsu : ∀ (a : Addr) (oe : Obj) (cls : Value) (d : Option Addr) (pn : List (Addr × Obj)), Zc cls d oe → (∃ vs, oe.data = .fields vs) → PSs (X.suite a ((a, oe) :: pn)) (b₀ :: suite) (ts a cls d)) (r : HdsN X n hds l) :
      HdsN X n (.ExceptHandler (some (.Name x np)) (some n) (b₀ :: suite) pos' :: hds) ((c, ts) :: l)
section
variable {X : Cx} {n : Str} {i : Nat} {body : List Stmt} {h₀ : ExceptHandler} {hds : List ExceptHandler} {l : List (Value × (Addr → Value → Option Addr → TS))} {pos : Pos} {tb : WX → TS} {Wout : WX}
theorem ps_try_manyN (hs : X.stack = X.env :: X.outer) (hf : X.env.frame = some X.env.locals) (hN : X.N.Nodup) (hi : X.N[i]? = some n) (hln : X.env.kindOf n = some .local) (tk : Takes X Wout)
    (hb : ∀ (W : WX) (pn : List (Addr × Obj)) (xe : Value → Shared → Prop), Takes (X.tr pn xe) W → PassesOwn (model X.prog X.w) X.A X.env xe → PSs (X.tr pn xe) body (tb W))
    (hh : HdsN X n (h₀ :: hds) l) : PS X (.Try body (h₀ :: hds) [] [] pos) (fun D σ H => tb (wManyN X.K i Wout D l) D σ H) := by
  refine ⟨fun pins s σ H D I h => ?_⟩
  have ok := I.ok
  have hfr : X.A.frames = some (X.env :: X.outer) := by rw [ok.frames, hs]
  have hloc : Loc X.env.scope n := .inl hln
  refine wpAny_Try_except ?_
  refine wpAny_mono ((hb (wManyN X.K i Wout D l) (X.pn ++ pins) (fun e s₁ => wpAny (model X.prog X.w) X.A (noteFrame e X.env) (fun _ s₂ => wpAny (model X.prog X.w) X.A (setFlight e none) (fun _ s₃ =>
    wpAny (model X.prog X.w) X.A (handleBy e X.env (h₀ :: hds)) (SP X pins D) X.xe s₃) X.xe s₂) X.xe s₁) (fun u s' xx => ?_) PassesOwn.looking).run [] s σ H D (I.toTry _) h) (fun f s1 hsp => ?_) (fun e s1 he => he)
  · obtain ⟨a, B, sI, pins', σ', H', cls, d, rfl, J', nb, up, sky, na, os, ag, w⟩ := xx
    have J : Inv X pins σ' H' sI := J'.ofTry ok
    have sky' : Sky B (X.env :: X.outer) a (Zc cls d) X.env.locals s'.heap := by rw [← hs]; exact sky
    show wpAny (model X.prog X.w) X.A (noteFrame (.ref a) X.env) _ _ _
    refine Sky.land Zc.steady hfr hf sky' fun h3 fl3 up3 => ?_
    have J3 : Inv X pins σ' H' { s' with heap := h3 } := J.landed nb fl3.1 (up.trans up3) os ag
    obtain ⟨oe3, vs3, he3, hz3, hd3⟩ := fl3.there
    have notFr : ∀ {h : Heap} {o : Obj} {vs : Array Value}, h.FunFrames B (X.env :: X.outer) → h.get? a = some o → o.data = .fields vs → a ∉ frs (X.env :: X.outer) := fun {h o vs} ff e dd hm => by
      obtain ⟨_, o', e', hnf⟩ := ff.mem hm
      rw [e] at e'; cases e'
      exact hnf _ dd
    have nfr := notFr fl3.2.2.1 he3 hd3
    have nL : a ≠ X.env.locals := fun z => nfr (List.mem_filterMap.mpr ⟨X.env, List.mem_cons_self, by rw [hf, z]⟩)
    have nF : a ∉ X.fs := fun hm => by
      obtain ⟨e, he, q⟩ := List.mem_filterMap.mp hm
      exact nfr (List.mem_filterMap.mpr ⟨e, List.mem_cons_of_mem _ he, q⟩)
    have S3 := J3.suite he3 hd3 na nL nF
    have go : ∀ {hds' : List ExceptHandler} {l' : List (Value × (Addr → Value → Option Addr → TS))}, HdsN X n hds' l' → wManyN X.K i Wout D l' cls d σ' H' →
        wpAny (model X.prog X.w) X.A (handleBy (.ref a) X.env hds') (SP X pins D) X.xe { s' with heap := h3 } := by
      intro hds' l' hk
      induction hk with
      | nil =>
        intro w
        refine wpAny_handleBy_nil ?_
        obtain ⟨k1, k2, k3, oe, vs, T, oT, ts', he, hz, hd, h1, hr⟩ := id fl3
        unfold PySem.passOn
        refine wpAny_bind (wpAny_field he hd h1 ?_)
        rw [if_neg (show ¬ ((Value.ref T == Value.none) = true) from by simp)]
        have fin : wpAny (model X.prog X.w) X.A (setFlight (.ref a) X.env.frame) (fun _ s4 => wpAny (model X.prog X.w) X.A (throw (.ref a) : Sem Flow) (SP X pins D) X.xe s4) X.xe { s' with heap := h3 } := by
          rw [hf]
          refine HandSPX.setFlight_upZ fl3 fun h4 hh4 up4 => wpAny_throw (tk _ _ ?_)
          exact ⟨a, B, sI, pins, σ', H', cls, d, rfl, J, nb, (up.trans up3).trans up4, .inr (.inr (by rw [hs]; exact hh4)), na, os, ag, w⟩
        first
          | exact wpAny_bind (wpAny_pure (wpAny_bind fin))
          | exact wpAny_bind fin
      | @cons x c ts b₀ suite np pos' hds2 l2 hc hsu r ih =>
        intro w
        obtain ⟨b, hb1, hyes, hno⟩ := w
        refine wpAny_handleBy_cons (codeAny_handlers_test ?_) (by intro q; cases q)
        have LT : PySem.W.Looks (model X.prog X.w) h3 (typeOf (.ref a)) cls := fun A Q E s k q => wpAny_typeOf_ref (k _ _ he3) (by rw [hz3.1]; exact q)
        have LM := PySem.W.exm_one (M := model X.prog X.w) (J3.kIn) LT hb1
        have test : ∀ {Q : Value → Shared → Prop} {E : Value → Shared → Prop}, Q c { s' with heap := h3 } → wpAny (model X.prog X.w) (X.A.mark (some (.ref a))) (eval (.Name x np) X.env) Q E { s' with heap := h3 } := fun {Q E} q => by
          obtain ⟨hg, hdbg, hm | ⟨hm, hv, hnn⟩⟩ := hc
          · exact ld_glob (X := X.suite a ((a, oe3) :: (X.pn ++ pins))) S3 hg hm q hdbg
          · exact ld_blt (X := X.suite a ((a, oe3) :: (X.pn ++ pins))) S3 hg hm hv q hnn hdbg
        refine test (LM.here ?_)
        cases b with
        | true =>
          refine codeAny_handlers_suite_as ?_
          refine HandSPX.lands_againZ fl3 fun h4 fl4 up4 => ?_
          have J4 : Inv X pins σ' H' { s' with heap := h4 } := J.landed nb fl4.1 ((up.trans up3).trans up4) os ag
          obtain ⟨oe4, vs4, he4, hz4, hd4⟩ := fl4.there
          have S4 := J4.suite he4 hd4 na nL nF
          refine store_ok (X := X.suite a ((a, oe4) :: (X.pn ++ pins))) (v := .ref a) S4 hN hi hloc rfl (fun s5 S5 => ?_) (.inr hln)
          refine wpAny_mono ((hsu a oe4 cls d (X.pn ++ pins) hz4 ⟨_, hd4⟩).run [] s5 _ H' _ S5 (hyes rfl a na)) (fun f s6 hsp => ?_) (fun _ _ z => False.elim z)
          have end_ : ∀ {σ6 : St} {H6 : Hp} {Q : Shared → Prop}, Inv (X.suite a ((a, oe4) :: (X.pn ++ pins))) [] σ6 H6 s6 → (∀ s7, Inv X pins (σ6.set i none) H6 s7 → Q s7) →
              wpAny (model X.prog X.w) X.A (do bindName X.env n .none; unbindBehindTheSuite X.env n pos') (fun _ s7 => Q s7) X.xe s6 := fun {σ6 H6 Q} S6 hq => gone_ok (S6.unsuite ok) hN hi hln hq
          cases f with
          | next =>
            obtain ⟨σ6, H6, S6, q6⟩ := hsp
            exact end_ S6 fun s7 J7 => ⟨_, _, J7, q6⟩
          | brk =>
            obtain ⟨σ6, H6, S6, q6⟩ := hsp
            exact end_ S6 fun s7 J7 => ⟨_, _, J7, q6⟩
          | cont =>
            obtain ⟨σ6, H6, S6, q6⟩ := hsp
            exact end_ S6 fun s7 J7 => ⟨_, _, J7, q6⟩
          | ret u =>
            obtain ⟨v6, σ6, H6, S6, r6, q6⟩ := hsp
            exact end_ S6 fun s7 J7 => ⟨_, _, _, J7, r6, q6⟩
        | false =>
          show wpAny _ X.A (handleBy (.ref a) X.env hds2) _ _ _
          exact ih (hno rfl)
    exact go hh w
  · cases f with
    | next =>
      obtain ⟨σ', H', J', q⟩ := hsp
      exact wpAny_execs_nil ⟨σ', H', J'.ofTry ok, q⟩
    | brk =>
      obtain ⟨σ', H', J', q⟩ := hsp
      exact ⟨σ', H', J'.ofTry ok, q⟩
    | cont =>
      obtain ⟨σ', H', J', q⟩ := hsp
      exact ⟨σ', H', J'.ofTry ok, q⟩
    | ret u =>
      obtain ⟨v, σ', H', J', r, q⟩ := hsp
      exact ⟨v, σ', H', J'.ofTry ok, r, q⟩
end
def tCallNS (n m : Nat) (sp : Sp) (gV : List V → List V → List V) (E : St → XK) (t tk : TA) : TE := fun σ H Q => t σ H fun vs H1 => tk σ H1 fun zs H2 => vs.length = n ∧ zs.length = m ∧ sp (gV vs zs) H2 Q (E σ)
section
variable {X : Cx} {CX : CXT} {k n : Nat} {f : Addr} {fd : FuncData} {ps ks : List Str} {sp : Sp} {E : St → XK} {x : Str} {p pos : Pos} {e : Expr} {es : List Expr} {kws : List Keyword} {t tk : TA} {g : List Value → List Value → List Value} {gV : List V → List V → List V}
theorem run_fnNS {pins : List (Addr × Obj)} {σ : St} {H : Hp} {s : Shared} {Q : VK} {us ws : List Value} {vs zs : List V} (F : FnOk X.prog X.w X.K X.mg X.base CX k f fd ps sp) (hr : Room k X.A) (hb : KBn X.K fd ps n ks g gV) (hx : PassesAt CX X σ (E σ))
    (I : Inv X pins σ H s) (r : Vals vs us) (rz : Vals zs ws) (l1 : vs.length = n) (l2 : zs.length = ks.length) (h : sp (gV vs zs) H Q (E σ)) : wpAny (model X.prog X.w) X.A (call (.ref f) us (ks.zip ws)) (EP X pins σ Q) X.xe s := by
  have r2 := hb.rel r rz
  refine wpAny_call (codeAny_mono (F.run X.A X.stack s H ⟨us, ks.zip ws⟩ (g us ws) (gV vs zs) Q (E σ) hr I.env0 (hb.to s us ws I.kIn (r.length.symm.trans l1) (rz.length.symm.trans l2)) r2 h) fun r s' hq => ?_)
  cases r with
  | error e => exact hx pins H s e s' I hq
  | ok fl =>
    cases fl with
    | ret u => exact I.after hq
    | next => exact False.elim hq
    | brk => exact False.elim hq
    | cont => exact False.elim hq
theorem pe_callNS (F : FnOk X.prog X.w X.K X.mg X.base CX k f fd ps sp) (hr : Room k X.A) (hg : Gl X x) (hm : X.mg x = some (.ref f)) (hk : PySem.W.keepIn X.K (.ref f) = true) (hb : KBn X.K fd ps n ks g gV) (hx : ∀ σ, PassesAt CX X σ (E σ))
    (ha : PA X (e :: es) t) (hkw : PK X kws tk) (hall : (backToKw pos (keywordEach kws X.env)).all (·.1.isSome) = true := by rfl) (hks : (backToKw pos (keywordEach kws X.env)).filterMap (·.1) = ks := by rfl)
    (hdb : (x == ("__debug__" : Str)) = false := by decide) (he : starEach (e :: es) X.env = (false, eval e X.env) :: starEach es X.env := by rfl)
    (hpl : ((backTo pos (starEach (e :: es) X.env)).any (·.1) || (backToKw pos (keywordEach kws X.env)).any (·.1.isNone)) = false := by rfl) :
    PE X (.Call (.Name x p) (e :: es) kws pos) (tCallNS n ks.length sp gV E t tk) := by
  refine ⟨fun pins s σ H Q I h => ?_⟩
  refine wpAny_Call_Name_kw (ld_glob I hg hm ?_ hdb)
  refine PySem.W.callWith_KW (h₀ := X.base) I.ok.mod.kin hk hall (thn (ha.run pos pins s σ H _ I h) fun us s1 ⟨vs, H1, I1, r, q⟩ => ?_) hpl he
  refine thn (hkw.run pos pins s1 σ H1 _ I1 q) fun ws s2 ⟨zs, H2, I2, rz, l1, l2, q2⟩ => ⟨I2.kIn, ?_⟩
  rw [hks]
  exact run_fnNS F hr hb (hx σ) I2 r rz l1 l2 q2
end
end L2
set_option maxRecDepth 100000
set_option maxHeartbeats 4000000
set_option pp.maxSteps 400
namespace Z
open PySem PySem.Spec PyProof.Rows L2
open PySem.W PySem.Calls PySem.HandSPX
open Builtin Builtin.ObjectAttr
structure Root (R : String) (bm : List Value) (newId initId : String) : Prop where
  src : ∃ B iN bmN, ExcBaseFacts B newId iN bmN ∧ bm.contains (.type B) = true
  noA : bm.contains (.type "AttributeError") = false
  noN : bm.contains (.type "NameError") = false
  ob : bm.contains (.type "object") = true
  ne : bm.isEmpty = false
  pass : ∀ self, refuseLoop self "__setattr__" bm = pure ()
  slot : Slot R "__init__" initId
  entry : entryFor table initId = some Builtin.«BaseException.__init__»
  kind : builtinKind initId = some .slot
  row : Manifest.signature? initId = some ⟨.positional, "*", R, .self, [⟨"args", .varPos, false⟩]⟩
  star : (R != "*") = true
  kx : KxsFacts R initId
theorem root_KeyError : Root "KeyError" [.type "KeyError", .type "LookupError", .type "Exception", .type "BaseException", .type "object"] "LookupError.__new__" "KeyError.__init__" where
  src := ⟨_, _, _, PySem.F.excBase_LookupError, by decide +kernel⟩
  noA := by decide +kernel
  noN := by decide +kernel
  ob := by decide +kernel
  ne := rfl
  pass := fun self => by kernel_rfl
  slot := .of (owner := "KeyError") (n := "__init__") (by rw [typeLookup_type, builtinLookup_eq_fast]; kernel_rfl) (by decide +kernel) (by decide +kernel) (by decide +kernel)
    (by first | exact .inl (by decide +kernel) | exact .inr (by decide +kernel)) (by rw [isSubtype_type]; kernel_rfl)
  entry := entryFor_alias (id' := "BaseException.__init__") (by rw [fastTable_eq_tree]; kernel_rfl) (by first | rfl | decide +kernel) (by decide +kernel) (by rw [fastTable_eq_tree]; kernel_rfl)
  kind := by kernel_rfl
  row := by kernel_rfl
  star := by decide +kernel
  kx := ⟨by show builtinType _ = _; rw [builtinType_eq_fast]; kernel_rfl, by first | kernel_rfl | rfl⟩
section
variable {M : Model} {A : Around} {E : Value → Shared → Prop} {h : Heap} {g : Array GenState} {d : Drawn} {t : Nat} {os : OsState}
variable {nm q : Str} {C N : Addr} {bs bm bmB : List Value} {sn : List Str} {sub : List Value} {ab : Bool} {col : Option Bool} {dd : Option Addr} {k0 k1 k2 k3 k5 : Option Value} {B newId initId R iN : String}
theorem chk_new (FB : ExcBaseFacts B newId iN bmB) (hB : bm.contains (.type B) = true) {rest : List Value} {Q : Unit → Shared → Prop}
    (hC : h.get? C = some (excClassObj nm q C N bs bm true sn sub ab col dd k0 k1 k2 k3 k5 newId)) (hq : Q () ⟨h, g, d, t, os⟩) : wpAny M A (checkBuiltinCall newId ⟨.ref C :: rest, []⟩) Q E ⟨h, g, d, t, os⟩ := by
  have z : (Value.ref C :: bm).contains (.type B) = true := by rw [List.contains_cons, hB, Bool.or_true]
  have st := FB.noStar
  simp only [checkBuiltinCall, FB.newKind, FB.newSplit, FB.newRow]
  repeat (first | refine wpAny_loadPart_at hC ?_ | (refine wpAny_isSubtype_exc hC ?_; rw [z]) | refine wpAny_staticBase_exc hC ?_ | refine wpAny_madeBy_exc hC ?_ | simp only [bne_self_eq_false, Bool.false_eq_true, if_false] | wp_step)
  exact hq
theorem chk_up (W : Root R bm newId initId) {e : Addr} {oe : Obj} {rest : List Value} {Q : Unit → Shared → Prop}
    (hC : h.get? C = some (excClassObj nm q C N bs bm true sn sub ab col dd k0 k1 k2 k3 k5 newId)) (he : h.get? e = some oe) (hcls : oe.cls = .ref C) (hq : Q () ⟨h, g, d, t, os⟩) : wpAny M A (checkBoundCall initId ⟨.ref e :: rest, []⟩) Q E ⟨h, g, d, t, os⟩ := by
  have st := W.star
  simp only [checkBoundCall, W.kind, W.row]
  repeat (first | (with_reducible refine wpAny_loadPart_at he ?_; rw [hcls]) | with_reducible refine wpAny_loadPart_at hC ?_ | wp_step)
  refine wpAny_onRaise ?_
  rw [show ∀ (x y : String) (n : Nat), Bind.check ⟨.positional, "*", R, .self, [⟨"args", .varPos, false⟩]⟩ x y n (List.map (fun x => x.fst) ({ pos := Value.ref e :: rest } : Args).kw) = pure () from fun x y n => check_star_args _ _ _ _ _ _]
  exact wpAny_pure hq
end
section
variable {prog : Program} {w : World} {A : Around} {E : Value → Shared → Prop} {Rs : Result → Shared → Prop} {h : Heap} {g : Array GenState} {d : Drawn} {t : Nat} {os : OsState}
variable {nm q : Str} {C N : Addr} {bs bm bmB : List Value} {sn : List Str} {sub : List Value} {ab : Bool} {col : Option Bool} {dd : Option Addr} {k0 k1 k2 k3 k5 : Option Value} {B newId initId R iN : String}
theorem run_new (FB : ExcBaseFacts B newId iN bmB) (hB : bm.contains (.type B) = true) (noA : bm.contains (.type "AttributeError") = false) (noN : bm.contains (.type "NameError") = false) {rest : List Value}
    (hC : h.get? C = some (excClassObj nm q C N bs bm true sn sub ab col dd k0 k1 k2 k3 k5 newId)) (hrest : rest.length ≤ sizeLine)
    (hq : Rs (.ok (.ret (.ref (h.objs.size + 1)))) ⟨(h.push (kdv_tup rest)).push (excO C h.objs.size), g, d, t, os⟩) :
    codeAny (model prog w) A (.builtin newId ⟨.ref C :: rest, []⟩) Rs ⟨h, g, d, t, os⟩ := by
  have e0 := FB.ends
  have c1 : (Value.ref C :: bm).contains (.type B) = true := by rw [List.contains_cons, hB, Bool.or_true]
  have c2 : (Value.ref C :: bm).contains (.type "AttributeError") = false := by rw [List.contains_cons, noA]; rfl
  have c3 : (Value.ref C :: bm).contains (.type "NameError") = false := by rw [List.contains_cons, noN]; rfl
  refine codeAny_builtinAt FB.entry ?_
  unfold Builtin.«BaseException.__new__»
  refine PySem.wpAt_bind ?_
  show PySem.wpAt _ _ _ (stack >>= _) _ _ _
  refine PySem.wpAt_bind (PySem.wpAt_stack fun p below => PySem.wpAt_of_wpAny ?_)
  wp_walk
  refine wpAt_of_wpAny ?_
  rw [FB.owner]
  repeat (first | with_reducible refine wpAny_madeHere_exc FB.canon hC ?_ | with_reducible refine wpAny_loadPart_at hC ?_ | (with_reducible refine wpAny_isSubtype_exc hC ?_; first | rw [c1] | rw [c2] | rw [c3]) | wp_step)
  show Rs _ _
  rw [Heap.size_push]
  exact hq
theorem run_make (FB : ExcBaseFacts B newId iN bmB) (hB : bm.contains (.type B) = true) (noA : bm.contains (.type "AttributeError") = false) (noN : bm.contains (.type "NameError") = false) {rest : List Value} {fI : Addr} {Q : Fin → Shared → Prop}
    (hC : h.get? C = some (excClassObj nm q C N bs bm true sn sub ab col dd k0 k1 k2 k3 k5 newId))
    (hi : W.Looks (model prog w) h (typeLookup (.ref C) "__init__") (some (.ref fI))) (hb : ∀ self, W.Looks (model prog w) h (bindSpecial (.ref fI) self) (.ref fI, [self])) (hrest : rest.length ≤ sizeLine)
    (hq : codeAny (model prog w) A (.call (.ref fI) ⟨.ref (h.objs.size + 1) :: rest, []⟩)
      (fun r s' => match r with | .ok (.ret v) => v = .none ∧ Q (.done (.ret (.ref (h.objs.size + 1)))) s' | .ok _ => False | .error e => E e s')
      ⟨(h.push (kdv_tup rest)).push (excO C h.objs.size), g, d, t, os⟩) :
    wpAny (model prog w) A (Builtin.«type.__call__» ⟨.ref C :: rest, []⟩) Q E ⟨h, g, d, t, os⟩ := by
  repeat (first | with_reducible refine wpAny_loadPart_at hC ?_ | with_reducible refine wpAny_madeBy_exc hC ?_ | wp_step)
  refine codeAny_call_builtin_code (Code.quiet_builtin _ FB.quiet) (chk_new FB hB hC ?_)
  refine run_new FB hB noA noN hC hrest ?_
  show wpAny _ _ _ _ _ _
  have kp : ∀ b o, h.get? b = some o → ((h.push (kdv_tup rest)).push (excO C h.objs.size)).get? b = some o := fun b o e => Heap.get?_push_of_some _ (Heap.get?_push_of_some _ e)
  have hC1 := kp _ _ hC
  have hn : ((h.push (kdv_tup rest)).push (excO C h.objs.size)).get? (h.objs.size + 1) = some (excO C h.objs.size) := by heap_get
  have cC : (Value.ref C :: bm).contains (.ref C) = true := by simp
  have i1 := hi.keeps kp
  have b1 := (hb (.ref (h.objs.size + 1))).keeps kp
  unfold isInstance
  repeat (first | with_reducible refine wpAny_loadPart_at hn ?_ | (with_reducible refine wpAny_isSubtype_exc hC1 ?_; rw [cC]) | wp_step)
  show wpAny _ _ (typeLookup (.ref C) _) _ _ _
  refine i1.at ?_
  refine wpAny_holding (wpAny_bind (b1.at ?_))
  refine wpAny_bind (wpAny_call (codeAny_mono hq fun r s' z => ?_))
  rcases r with e | (v | _ | _ | _) <;> first | exact z | exact z.elim | skip
  obtain ⟨rfl, z⟩ := z
  first
    | exact wpAny_pure (wpAny_pure z)
    | (wp_walk; exact z)
theorem run_call (FB : ExcBaseFacts B newId iN bmB) (hB : bm.contains (.type B) = true) (noA : bm.contains (.type "AttributeError") = false) (noN : bm.contains (.type "NameError") = false) {rest : List Value} {fI : Addr}
    (hC : h.get? C = some (excClassObj nm q C N bs bm true sn sub ab col dd k0 k1 k2 k3 k5 newId))
    (hi : W.Looks (model prog w) h (typeLookup (.ref C) "__init__") (some (.ref fI))) (hb : ∀ self, W.Looks (model prog w) h (bindSpecial (.ref fI) self) (.ref fI, [self])) (hrest : rest.length ≤ sizeLine)
    (hq : codeAny (model prog w) (A.under (.builtin "type.__call__" ⟨.ref C :: rest, []⟩)) (.call (.ref fI) ⟨.ref (h.objs.size + 1) :: rest, []⟩) (W.InitBack (h.objs.size + 1) Rs)
      ⟨(h.push (kdv_tup rest)).push (excO C h.objs.size), g, d, t, os⟩) :
    codeAny (model prog w) A (.call (.ref C) ⟨rest, []⟩) Rs ⟨h, g, d, t, os⟩ := by
  have f1 := tc_lookup
  have f2 := tc_bind (.ref C)
  have hTy : (⟨h, g, d, t, os⟩ : Shared).TypeIs (.ref C) "type" := ⟨_, hC, rfl⟩
  refine codeAny_of_tree ?_
  show wpAny _ _ (callAny (.ref C) _) _ _ _
  repeat (any_goals (first | assumption | with_reducible refine wpAny_loadPart_at hC ?_ | wp_step))
  refine ⟨rfl, ?_⟩
  refine codeAny_call_builtin_at (Code.quiet_builtin _ (by decide +kernel)) entry_typeCall (wpAny_check_type_call_sub hC (run_make FB hB noA noN hC hi hb hrest ?_))
  refine codeAny_mono hq fun r s' z => ?_
  rcases r with e | (v | _ | _ | _) <;> exact z
theorem run_up (W : Root R bm newId initId) {u e t0 : Addr} {rest : List Value} {Q : Value → Shared → Prop}
    (hC : h.get? C = some (excClassObj nm q C N bs bm true sn sub ab col dd k0 k1 k2 k3 k5 newId)) (he : h.get? e = some (excO C t0)) (hu : h.get? u = some (kxs_mw initId e)) (hz : rest.length ≤ sizeLine)
    (hq : ∀ h' t1, (∀ b o, b ≠ e → h.get? b = some o → h'.get? b = some o) → h'.get? e = some (excO C t1) → Q .none ⟨h', g, d, t, os⟩) :
    wpAny (model prog w) A (call (.ref u) rest) Q E ⟨h, g, d, t, os⟩ := by
  refine wpAny_call (codeAny_of_tree ?_)
  show wpAny _ A.in1 (callAny (.ref u) ⟨rest, []⟩) _ _ _
  simp only [callAny]
  refine wpAny_bind (wpAny_load hu ?_)
  simp only [kxs_mw, show (Value.type "method-wrapper" == Value.type "method" || Value.type "method-wrapper" == Value.type "builtin_function_or_method" || Value.type "method-wrapper" == Value.type "method-wrapper") = true by decide, if_true]
  refine KFB.if_so (by decide) ?_
  refine wpAny_bind (chk_up W hC he rfl ?_)
  refine wpAny_bind (wpAny_pure (wpAny_pure ?_))
  refine ⟨plainId_quiet W.slot.plain _, codeAny_builtin W.entry ?_⟩
  exact exc_init_tree (cls := .ref C) (t0 := t0) (dv := none) (c2 := .none) (c3 := .none) (b4 := .bool false) he hz fun h' k e' _ => hq h' h.objs.size k e'
theorem run_store (Wr : Root R bm newId initId) {K : W.Frag} {name : Str} {tk : Tok} {v : Value} {x : Addr} {fv : Array Value} {cd : ClassData}
    (X : K.In h) (hx : h.get? x = some { cls := .ref C, data := .fields fv }) (hcd : W.clsIn K C = some cd) (hm : cd.mro = .ref C :: bm) (hh : cd.hasDict = true) (ha : W.findIn K (.ref C) name = some none)
    (hq : ∀ h' tk' dx, (∀ b o, b ≠ x → h.get? b = some o → h'.get? b = some o) → h.objs.size ≤ dx → dx ≠ x → h'.get? x = some { cls := .ref C, dict := some dx, data := .fields fv } →
      h'.Ns1 dx (fun y => if y = name then some v else none) → Rs (.ok (.ret .none)) ⟨h', g, d, tk', os⟩) :
    codeAny (model prog w) A (.call (.builtin "object.__setattr__") ⟨[.ref x, .str name tk, v], []⟩) Rs ⟨h, g, d, t, os⟩ := by
  have I : W.InstAt h x { cls := .ref C, data := .fields fv } C none := ⟨hx, rfl, rfl, trivial⟩
  have SF := F.store_object
  have xs : x ≠ h.objs.size := Nat.ne_of_lt (Heap.lt_size hx)
  have ob : cd.mro.contains (.type "object") = true := by rw [hm, List.contains_cons, Wr.ob, Bool.or_true]
  have sb : W.Looks (model prog w) h (isInstance (.ref x) (.type "object")) true := I.type.andThen (W.looks_mroIn X (by unfold W.mroIn; rw [hcd, Option.bind_some, if_neg (by rw [hm]; exact Bool.false_ne_true), ob]))
  refine codeAny_call_builtin SF.slot.plain SF.entry (@W.check_slot (model prog w) _ _ ⟨h, g, d, t, os⟩ "object.__setattr__" "object" "__setattr__" (.ref x) [.str name tk, v] [] _ SF.kind SF.split sb (SF.args (.ref x) (.str name tk) v) ?_)
  have mr : W.Looks (model prog w) h (mroOf (.ref C)) cd.mro := (W.looks_clsIn X hcd).andThen .now
  have tk0 : W.Looks (model prog w) h (storeTaker? none) none := .now
  have cl : W.Looks (model prog w) h (classData C) cd := W.looks_clsIn X hcd
  rw [W.osa_eq, refuse_eq]
  refine wpAny_bind (wpAny_bind (I.type.at (wpAny_bind (mr.at ?_))))
  rw [hm, refuseLoop_ref, Wr.pass]
  refine wpAny_pure (wpAny_bind (I.type.at (wpAny_bind ((W.looks_findIn X ha).at (wpAny_bind (tk0.at ?_))))))
  show wpAny _ _ (storeInOwnDict (.ref x) (.ref C) (.str name tk) name v false) _ _ _
  obtain ⟨nm, bs, mro, ns, qn, hd, sn, sb, ab, col, del⟩ := cd
  dsimp only at hh
  subst hh
  unfold storeInOwnDict ownDictForStores
  repeat (first | with_reducible refine store_in_new ?_ ?_ | with_reducible refine wpAny_loadPart_at hx ?_ | with_reducible refine cl.at ?_ | wp_step)
  · exact ⟨_, #[], _, (Heap.get?_update_ne _ _ _ _ xs.symm).trans (Heap.get?_push_at rfl rfl), rfl, fun e he => absurd he (by simp), fun _ => rfl⟩
  · intro h' tk' hn' hs
    have hx1 : (h.push { cls := .type "dict", data := .dict #[] }).get? x = some { cls := .ref C, data := .fields fv } := Heap.get?_push_of_some _ hx
    refine hq h' tk' h.objs.size (fun b o hb ho => ?_) (Nat.le_refl _) xs.symm ?_ hn'
    · exact (hs.2 b (Nat.ne_of_lt (Heap.lt_size ho))).trans ((Heap.get?_update_ne _ _ _ _ hb).trans (Heap.get?_push_of_some _ ho))
    · exact (hs.2 x xs).trans (Heap.get?_update_self _ hx1 rfl)
end
structure TiedK (R : String) (rm : List Value) (newId initId : String) (prog : Program) (K : Frag) (mg : Str → Option Value) (x f qual : Str) (C fI : Addr) : Prop where
  root : Root R rm newId initId
  gC : mg x = some (.ref C)
  cls : ∃ nm q N bs sn sub ab col dd k0 k1 k2 k3 k5, K.lookup C = some (excClassObj nm q C N bs rm true sn sub ab col dd k0 k1 k2 k3 k5 newId)
  sa : findIn K (.ref C) "__setattr__" = some (some (.builtin "object.__setattr__"))
  noN : findIn K (.ref C) f = some none
  iC : findIn K (.ref C) "__init__" = some (some (.ref fI))
  tC : typeIn K (.ref fI) = some (.type "function")
  kC : keepIn K (.ref C) = true
  exC : subIn K (.ref C) (.type "BaseException") = some true
  isR : subIn K (.ref C) (.type R) = some true
  tyC : typeIn K (.ref C) = some (.type "type")
  xf : XfC K C
  fn : ∃ (oc : Value) (od : Option Addr) (kV doc pm : Value) (an : Option Addr) (cda cc : Addr) (ct : Value) (osl : Array (Option Value)) (m : Str) (j : Nat) (p1 p2 q0 q1 q2 q3 q4 q5 r1 r2 r3 r4 : Pos) (ccl : Value) (cdd : Option Addr) (vs : Array Value) (ccs : Array (Option Value)) (file : Str) (tf : Tok) (cl : Value) (cld : Option Addr) (csl : Array (Option Value)),
    K.lookup fI = some ⟨oc, od, .func (fnX "__init__" qual (xiA f p1 p2) (xiB f m j q0 q1 q2 q3 q4 q5 r1 r2 r3 r4) (xiS f) [("__class__", cc)] .none kV doc pm an (.ref cda) ct), osl⟩ ∧ codeIn K (.ref cda) qual = true ∧
    K.lookup cda = some ⟨ccl, cdd, .fields vs, ccs⟩ ∧ vs[2]? = some (.str file tf) ∧ ((prog.main.file : Str) == file) = true ∧ (q2.endLine == q4.line) = true ∧ K.lookup cc = some ⟨cl, cld, .cell (some (.ref C)), csl⟩
  sup : mg "super" = none
  top : (prog.main.scope.names.lookup ("super" : Str)).isSome = false
  self : mroIn K C (.ref C) = some true
  up : ks_superIn K C C "__init__" = some (some (.builtin initId))
  opq : nsIn K cStatics "thirdparty.any" = some none
  nf : f ≠ "self"
  nsup : f ≠ "super"
  ncls : f ≠ "__class__"
  ndb : f ≠ "__debug__"
  bd : ∀ (fd : FuncData) (a v : Value), IsInit f qual fd → bindArgs fd ⟨[a, v], []⟩ = pure ([("self", a), (f, v)] : List (Str × Value))
section
variable {prog : Program} {w : World} {A : Around} {E : Value → Shared → Prop} {Rs : Result → Shared → Prop} {s : Shared} {K : Frag} {mg mb : Str → Option Value} {x f qual : Str} {C fI : Addr} {R newId initId : String} {rm : List Value}
theorem tiedK_init (T : TiedK R rm newId initId prog K mg x f qual C fI) {e t0 : Addr} {v : Value} {args : Args} (X : K.In s.heap) (hlim : s.heap.NoLimit) (glob : s.heap.Ns mainGlobals mg) (blt : s.heap.Ns builtinsNs mb) (bb : ∀ y : Str, y ≠ "__name__" → mb y = bootBuiltins y)
    (he : s.heap.get? e = some (excO C t0)) (hnx : K.lookup e = none) (hroom : A.depth < recursionLimit) (hb : ∀ fd, IsInit f qual fd → BindsTo s fd args [("self", .ref e), (f, v)])
    (hq : ∀ h' tk dx t1, (∀ b o, b ≠ e → s.heap.get? b = some o → h'.get? b = some o) → h'.get? e = some { cls := .ref C, dict := some dx, data := .fields #[.ref t1, .none, .none, .none, .bool false, .none] } → s.heap.objs.size ≤ dx → dx ≠ e →
      h'.Ns1 dx (fun y => if y = f then some v else none) → Rs (.ok (.ret .none)) { s with heap := h', toks := tk }) :
    codeAny (model prog w) A (.call (.ref fI) args) Rs s := by
  obtain ⟨oc, od, kV, doc, pm, an, cda, cc, ct, osl, m, j, p1, p2, q0, q1, q2, q3, q4, q5, r1, r2, r3, r4, ccl, cdd, vs, ccs, file, tf, cl, cld, csl, lk, code, lkc, hvs, hfile, hline, lcell⟩ := T.fn
  obtain ⟨nm, q, N, bs, sn, sub, ab, col, dd, k0, k1, k2, k3, k5, hC⟩ := T.cls
  have hcl : clsIn K C = some { name := nm, bases := bs, mro := .ref C :: rm, ns := N, qualname := q, hasDict := true, slotNames := sn, subclasses := sub, abstract := ab, collection := col, hasDel := false } := by unfold clsIn; rw [hC] <;> rfl
  have lsf := xiS_f (f := f) T.nf
  have lcs := xiS_cls (f := f) T.ncls
  have lsu := xiS_super (f := f) T.nsup
  refine ks_codeAny_call_defAt (fd := fnX "__init__" qual (xiA f p1 p2) (xiB f m j q0 q1 q2 q3 q4 q5 r1 r2 r3 r4) (xiS f) [("__class__", cc)] .none kV doc pm an (.ref cda) ct) (body := xiB f m j q0 q1 q2 q3 q4 q5 r1 r2 r3 r4) (binds := [("self", .ref e), (f, v)])
    hroom (X _ _ lk) rfl hlim (codeRec_of X code) rfl (hb _ ⟨kV, doc, pm, .ref cda, ct, an, cc, m, j, p1, p2, q0, q1, q2, q3, q4, q5, r1, r2, r3, r4, rfl⟩) (fun y hy => ?_) (fun y hy => ?_) (fun h1 hns kk => ?_) rfl rfl rfl
  · simp only [xiS, List.mem_cons, List.not_mem_nil, or_false] at hy
    rcases hy with rfl | rfl | rfl | rfl <;> (intro z; cases z)
  · simp only [List.mem_cons, List.not_mem_nil, or_false] at hy
    rcases hy with rfl | rfl
    · exact rfl
    · exact lsf
  have X1 : K.In h1 := X.keeps kk
  have he1 := kk _ _ he
  have hself : ([(("self" : Str), Value.ref e), (f, v)].reverse).lookup ("self" : Str) = some (.ref e) := by
    simp [List.lookup, eqs_ne T.nf]
  have hval : ([(("self" : Str), Value.ref e), (f, v)].reverse).lookup f = some v := by
    simp [List.lookup]
  generalize hm : (fun y => ([(("self" : Str), Value.ref e), (f, v)].reverse).lookup y) = m0 at hns
  have e1 : m0 ("self" : Str) = some (.ref e) := by rw [← hm]; exact hself
  have e2 : m0 f = some v := by rw [← hm]; exact hval
  have hlt := hns.lt
  have hLe : s.heap.objs.size ≠ e := Nat.ne_of_gt (Heap.lt_size he)
  refine ks_wpAt_execs_cons (ks_wpAt_Expr_any (ks_wpAt_MethodCall ?h1 (call_tree hline rfl)) rfl rfl)
  case h1 =>
    refine ks_wpAt_super_base (env := callEnv (fnX "__init__" qual (xiA f p1 p2) (xiB f m j q0 q1 q2 q3 q4 q5 r1 r2 r3 r4) (xiS f) [("__class__", cc)] .none kV doc pm an (.ref cda) ct) s.heap.objs.size fI) lsu lcs rfl rfl (X1 _ _ lk) rfl rfl rfl (X1 _ _ lkc) rfl hvs hfile T.top ?_
    refine ks_loadName_global rfl lsu (loadGlobal_builtin (glob.keeps kk) T.sup (blt.keeps kk) ((bb _ (by decide)).trans boot_super_) ⟨rfl, ?_⟩)
    refine wpAny_loadName_free rfl lcs rfl ⟨_, X1 _ _ lcell, rfl⟩ ?_
    refine wpAny_loadName_local rfl xiS_self hns e1 ?_
    refine ks_wpAny_isType_cls (X1 _ _ hC) rfl ⟨rfl, ?_⟩
    refine ks_wpAny_call_super (X1 _ _ hC) rfl he1 rfl (fun c z => by cases z) (looks_mroIn X1 T.self) (fun h2 hso k2 => ?_)
    have X2 : K.In h2 := X1.keeps k2
    have hxC : e ≠ C := fun z => by
      rw [z] at hnx
      rw [hnx] at hC
      cases hC
    have I2 : InstAt h2 e (excO C t0) C none := ⟨k2 _ _ he1, rfl, rfl, trivial⟩
    have hup := T.up
    unfold ks_superIn at hup
    rw [hcl] at hup
    refine kxs_getMethod T.root.kx hso (looks_opaque X2 T.opq) (l₀ := .ref C :: rm) ?_ rfl X2 hup (I2.type.andThen (looks_subIn X2 T.isR)) hxC (by decide) ?_
    · exact fun A Q E s k q => wpAny_bind ((looks_clsIn X2 hcl) A _ E s k (wpAny_pure q))
    refine kxs_callWith (i := initId) (x := e) rfl (evalArgs_plain (Calls.spliced_cons (Calls.Constant_str (k := j) (pos := q3) (Calls.spliced_nil ⟨Heap.get?_push_at rfl rfl, ?_⟩))))
    refine run_up (C := C) T.root (Heap.get?_push_of_some _ (X2 _ _ hC)) (Heap.get?_push_of_some _ I2.at_) (Heap.get?_push_at rfl rfl) (one_sz _) fun h3 t1 k3 he3 => ?_
    have k23 : ∀ b o, b ≠ e → h2.get? b = some o → h3.get? b = some o := fun b o hb z => k3 b o hb (Heap.get?_push_of_some _ z)
    have k13 : ∀ b o, b ≠ e → h1.get? b = some o → h3.get? b = some o := fun b o hb z => k23 b o hb (k2 b o z)
    have X3 : K.In h3 := fun b o z => k13 b o (fun y => by rw [y, hnx] at z; cases z) (X1 _ _ z)
    have hns3 : h3.Ns s.heap.objs.size m0 := by
      obtain ⟨oL, es, ep, hL, r⟩ := hns
      exact ⟨oL, es, ep, k13 _ _ hLe hL, r⟩
    show PySem.wpAt _ _ _ (execs _ _) _ _ _
    refine ks_wpAt_execs_cons (ks_wpAt_Assign_Attr ?_ rfl)
    refine wpAt_of_wpAny (wpAny_Name (wpAny_loadName_local rfl lsf hns3 e2 ?_) (eqs_ne T.ndb.symm))
    refine wpAny_Name (wpAny_loadName_local rfl xiS_self hns3 e1 ?_) (by decide)
    refine set_plain X3 (ox := excO C t1) (od := none) ⟨he3, rfl, rfl, trivial⟩ T.sa ?_
    refine run_store T.root X3 he3 hcl rfl rfl T.noN (fun h4 tk4 dx k4 dn dne he4 hn4 => ?_)
    show PySem.wpAt _ _ _ (execs _ _) _ _ _
    refine wpAt_of_wpAny (wpAny_execs_nil ?_)
    have z3 : s.heap.objs.size < h3.objs.size := hns3.lt
    exact hq h4 tk4 dx t1 (fun b o hb z => k4 b o hb (k13 b o hb (kk b o z))) he4 (Nat.le_of_lt (Nat.lt_of_lt_of_le z3 dn)) dne hn4
theorem tiedK_made (T : TiedK R rm newId initId prog K mg x f qual C fI) {v : Value} (X : K.In s.heap) (hlim : s.heap.NoLimit) (glob : s.heap.Ns mainGlobals mg) (blt : s.heap.Ns builtinsNs mb) (bb : ∀ y : Str, y ≠ "__name__" → mb y = bootBuiltins y) (hroom : A.depth + 1 < recursionLimit)
    (hq : ∀ h' tk e d, Made f s.heap h' e C d v → Rs (.ok (.ret (.ref e))) { s with heap := h', toks := tk }) :
    codeAny (model prog w) A (.call (.ref C) ⟨[v], []⟩) Rs s := by
  obtain ⟨nm, q, N, bs, sn, sub, ab, col, dd, k0, k1, k2, k3, k5, hC⟩ := T.cls
  obtain ⟨B, iN, bmN, FB, hB⟩ := T.root.src
  obtain ⟨hp, g, dr, tk, os⟩ := s
  have k : ∀ b o, hp.get? b = some o → ((hp.push (kdv_tup [v])).push (excO C hp.objs.size)).get? b = some o := fun b o e => Heap.get?_push_of_some _ (Heap.get?_push_of_some _ e)
  have hget : ((hp.push (kdv_tup [v])).push (excO C hp.objs.size)).get? (hp.objs.size + 1) = some (excO C hp.objs.size) := by heap_get
  have hnx : K.lookup (hp.objs.size + 1) = none := by
    cases e : K.lookup (hp.objs.size + 1) with
    | none => rfl
    | some o =>
      have z : hp.get? (hp.objs.size + 1) = some o := X _ _ e
      exact absurd (Nat.lt_of_succ_lt (Heap.lt_size z)) (Nat.lt_irrefl _)
  refine run_call FB hB T.root.noA T.root.noN (X _ _ hC) (looks_findIn X T.iC) (fun self => bind_fn X self T.tC) (one_sz v) ?_
  refine tiedK_init (s := ⟨(hp.push (kdv_tup [v])).push (excO C hp.objs.size), g, dr, tk, os⟩) T (X.keeps k) (hlim.keeps k) (glob.keeps k) (blt.keeps k) bb hget hnx ?_ (fun fd hf => .of_eq (T.bd fd _ _ hf)) fun h' tk' dx t1 k' hx dn dne hns => ?_
  · show A.depth + 1 < recursionLimit
    exact hroom
  · have old : ∀ b o, hp.get? b = some o → h'.get? b = some o := fun b o e => k' b o (Nat.ne_of_lt (Nat.lt_succ_of_lt (Heap.lt_size e))) (k b o e)
    have z : hp.objs.size + 1 + 1 ≤ dx := by
      have q := dn
      rw [Heap.size_push, Heap.size_push] at q
      exact q
    exact ⟨rfl, hq h' tk' (hp.objs.size + 1) dx ⟨old, Nat.le_succ _, ⟨t1, hx⟩, Nat.le_trans (Nat.le_trans (Nat.le_succ _) (Nat.le_succ _)) z, dne, hns⟩⟩
end
section
variable {X : Cx} {x f qual : Str} {C fI : Addr} {p pos : Pos} {e : Expr} {te : TA} {R newId initId : String} {rm : List Value}
theorem pmk_tiedK {k : Nat} (T : TiedK R rm newId initId X.prog X.K X.mg x f qual C fI) (hr : Room k X.A) (ha : PA X [e] te) (hg : Gl X x := by rfl) (hdb : (x == ("__debug__" : Str)) = false := by decide)
    (he : starEach (e :: []) X.env = (false, eval e X.env) :: starEach [] X.env := by rfl) (hpl : (backTo pos (starEach [] X.env)).any (·.1) = false := by rfl) :
    PMk X (.Call (.Name x p) [e] [] pos) (tMkT C f te) := by
  intro pins s σ H Q I h
  refine wpAny_Call_Name_kw (ld_glob I hg T.gC ?_ hdb)
  refine PySem.W.callWith_K (h₀ := X.base) I.ok.mod.kin T.kC (thn (ha.run pos pins s σ H _ I h) fun us s1 hh => ?_) he hpl
  obtain ⟨vs, H1, I1, r1, v, ev, q1⟩ := hh
  subst ev
  refine ⟨I1.kIn, ?_⟩
  cases r1 with
  | cons rv rn =>
    rename_i v' us'
    cases rn
    show wpAny _ _ (call (.ref C) [v']) _ _ _
    obtain ⟨mb, blt, bb⟩ := I1.mod.blt
    have lim := I1.nolimit
    have glob := I1.mod.glob.keeps I1.bk
    have blt1 := blt.keeps I1.bk
    obtain ⟨hp, g, dr, tk, os⟩ := s1
    refine wpAny_call (tiedK_made T I1.kIn lim glob blt1 bb (by have := hr.dp; omega) fun h' tk' e d M => ?_)
    show MkP X pins σ Q (.ref e) ⟨h', g, dr, tk', os⟩
    obtain ⟨t1, hoe⟩ := M.obj
    have hns := M.ns
    obtain ⟨G', g1, g2⟩ := restrict h' fun b => decide (b ≠ e)
    have gk : ∀ b, b ≠ e → G'.get? b = h'.get? b := fun b hb => g1 b (decide_eq_true hb)
    have ge : G'.get? e = none := g2 e (by simp)
    have old : ∀ b o, hp.get? b = some o → G'.get? b = some o := fun b o q => (gk b (Nat.ne_of_lt (Nat.lt_of_lt_of_le (Heap.lt_size q) M.new))).trans (M.keep b o q)
    have ob : ObjOk X.prog X.w (upd H1 d (.xd [(f, v)])) G' d (.xd [(f, v)]) := ⟨_, hns.at (fun o q => (gk d M.dne).trans q), fun y => relO_one rv y⟩
    have J : Inv X pins σ (upd H1 d (.xd [(f, v)])) ⟨G', g, dr, tk', os⟩ := I1.laid (t' := tk') old M.dbig ob
    refine ⟨e, _, _, ⟨G', g, dr, tk', os⟩, _, .ref C, some d, rfl, J, fun b o q => ?_, ge, hoe, ⟨rfl, rfl⟩, rfl, rfl, ?_, rfl, I1.bare, raises_own T.exC T.tyC, q1 d (I1.hok.fresh M.dbig)⟩
    · by_cases hb : b = e
      · have q' : G'.get? b = some o := q
        rw [hb, ge] at q'
        cases q'
      · exact (gk b hb).symm.trans q
    · rw [upd_ne (Ne.symm M.dne)]
      exact I1.hok.fresh M.new
theorem ps_raiseK {W : WX} {k : Nat} {pos2 : Pos} (tk : Takes X W) (T : TiedK R rm newId initId X.prog X.K X.mg x f qual C fI) (hr : Room k X.A) (ha : PA X [e] te) (hc : X.calm = true := by rfl) (hg : Gl X x := by rfl) (hdb : (x == ("__debug__" : Str)) = false := by decide)
    (he : starEach (e :: []) X.env = (false, eval e X.env) :: starEach [] X.env := by rfl) (hpl : (backTo pos (starEach [] X.env)).any (·.1) = false := by rfl) :
    PS X (.Raise (some (.Call (.Name x p) [e] [] pos)) none pos2) (fun _ σ H => tMkT C f te σ H fun cls d H' => W cls d σ H') := ps_raise hc tk (pmk_tiedK T hr ha hg hdb he hpl)
end
end Z
set_option maxRecDepth 100000
set_option maxHeartbeats 4000000
set_option pp.maxSteps 500
namespace Z
open PySem PySem.Spec PyProof.Rows L2
open PySem.W PySem.Calls PySem.HandSPX
open Builtin Builtin.ObjectAttr
theorem root_OverflowError : Root "OverflowError" [.type "OverflowError", .type "ArithmeticError", .type "Exception", .type "BaseException", .type "object"] "OverflowError.__new__" "OverflowError.__init__" where
  src := ⟨_, _, _, PySem.F.excBase_OverflowError, by decide +kernel⟩
  noA := by decide +kernel
  noN := by decide +kernel
  ob := by decide +kernel
  ne := rfl
  pass := fun self => by kernel_rfl
  slot := .of (owner := "OverflowError") (n := "__init__") (by rw [typeLookup_type, builtinLookup_eq_fast]; kernel_rfl) (by decide +kernel) (by decide +kernel) (by decide +kernel)
    (by first | exact .inl (by decide +kernel) | exact .inr (by decide +kernel)) (by rw [isSubtype_type]; kernel_rfl)
  entry := entryFor_alias (id' := "BaseException.__init__") (by rw [fastTable_eq_tree]; kernel_rfl) (by first | rfl | decide +kernel) (by decide +kernel) (by rw [fastTable_eq_tree]; kernel_rfl)
  kind := by kernel_rfl
  row := by kernel_rfl
  star := by decide +kernel
  kx := ⟨by show builtinType _ = _; rw [builtinType_eq_fast]; kernel_rfl, by first | kernel_rfl | rfl⟩
end Z
set_option maxRecDepth 100000
set_option maxHeartbeats 4000000
namespace Z
open PySem PySem.Spec PyProof.Rows L2
structure Df (K : PySem.W.Frag) (mg : Str → Option Value) (x : Str) (st : Stmt) (ps : List Str) (f : Addr) (fd : FuncData) : Prop where
  mg : mg x = some (.ref f)
  fn : Fun K x x st f fd
  bd : Binds K fd ps []
structure Dm (K : PySem.W.Frag) (C : Addr) (m qual : Str) (st : Stmt) (ps : List Str) (f : Addr) (fd : FuncData) : Prop where
  me : Meth K C m f
  fn : Fun K m qual st f fd
  bd : Binds K fd ps []
section
variable {X : Cx} {e : Expr} {es : List Expr} {t : TA} {p pos : Pos} {x : Str} {st : Stmt} {ps : List Str} {f : Addr} {fd : FuncData} {sp : Sp} {k : Nat}
theorem pe_cf (D : Df X.K X.mg x st ps f fd) (G : FnOk X.prog X.w X.K X.mg X.base CX0 k f fd ps sp) (hr : Room k X.A) (ha : PA X (e :: es) t) (hg : Gl X x := by rfl) (hdb : (x == ("__debug__" : Str)) = false := by decide)
    (he : starEach (e :: es) X.env = (false, eval e X.env) :: starEach es X.env := by rfl) (hpl : (backTo pos (starEach es X.env)).any (·.1) = false := by rfl) :
    PE X (.Call (.Name x p) (e :: es) [] pos) (tCall sp [] E0 t) := pe_call G hr hg D.mg D.fn.kp D.bd .nil pass0 ha hdb he hpl
theorem pe_cfG (D : Df X.K X.mg x st ps f fd) (G : FnG X.prog X.w X.K X.mg X.base CX0 k f fd ps sp) (hr : Room k X.A) (gu : X.A.guards = some []) (ha : PA X (e :: es) t) (hg : Gl X x := by rfl) (hdb : (x == ("__debug__" : Str)) = false := by decide)
    (he : starEach (e :: es) X.env = (false, eval e X.env) :: starEach es X.env := by rfl) (hpl : (backTo pos (starEach es X.env)).any (·.1) = false := by rfl) :
    PE X (.Call (.Name x p) (e :: es) [] pos) (tCallS sp (fun _ _ _ _ => False) t) := pe_callG G hr gu hg D.mg D.fn.kp D.bd passAt0 ha hdb he hpl
end
theorem But.tk {l : Addr} {H H' : Hp} {xs : List V} (b : But l H H') (h : H l = some (.lst xs)) : TK H H' :=
  ⟨fun c ys e => b c _ (ne_of e h (by intro z; cases z)) e, fun c o u e => b c _ (ne_of e h (by intro z; cases z)) e⟩
theorem But.sql {K : PySem.W.Frag} {l a : Addr} {H H' : Hp} {xs : List V} (b : But l H H') (ne : a ≠ l) (h : SqL K H a xs) : SqL K H' a xs := by
  rcases h with (h | ⟨o, h⟩) | h
  · exact .inl (.inl (b _ _ ne h))
  · exact .inl (.inr ⟨o, b _ _ ne h⟩)
  · exact .inr h
inductive Tr where
  | con (n : Int)
  | var (w : Str)
  | cho (a b c d : Tr)
  deriving DecidableEq
namespace Tr
def d : Tr → PyData
  | .con n => .int n
  | .var w => .str w
  | .cho a b c e => .tuple [a.d, b.d, c.d, e.d]
def deep : Tr → Nat
  | .con _ => 1
  | .var _ => 1
  | .cho a b c e => 1 + max (max a.deep b.deep) (max c.deep e.deep)
def str (s : String) : Str := s
def text : Tr → Str
  | .con n => toString n
  | .var w => w
  | .cho a b c e => str "(" ++ a.text ++ str "=" ++ b.text ++ str "?" ++ c.text ++ str ":" ++ e.text ++ str ")"
end Tr
theorem tr_tk {K : PySem.W.Frag} {H H' : Hp} (k : TK H H') : ∀ (t : Tr) {v : V}, Dp K H v t.d → Dp K H' v t.d
  | .con n, _, h => by
    unfold Tr.d at h ⊢
    cases h
    exact .int n
  | .var w, _, h => by
    unfold Tr.d at h ⊢
    cases h
    exact .str w
  | .cho a b c e, v, h => by
    unfold Tr.d at h ⊢
    cases h with
    | tup sq al =>
      cases al with | cons h1 al => cases al with | cons h2 al => cases al with | cons h3 al => cases al with | cons h4 al =>
      cases al
      exact .tup (SqT.tk k sq) (.cons (tr_tk k a h1) (.cons (tr_tk k b h2) (.cons (tr_tk k c h3) (.cons (tr_tk k e h4) .nil))))
theorem tr_con {K : PySem.W.Frag} {H : Hp} {n : Int} {v : V} (h : Dp K H v (Tr.con n).d) : v = .int n := by
  unfold Tr.d at h
  cases h
  rfl
theorem tr_var {K : PySem.W.Frag} {H : Hp} {w : Str} {v : V} (h : Dp K H v (Tr.var w).d) : v = .str w := by
  unfold Tr.d at h
  cases h
  rfl
theorem tr_cho {K : PySem.W.Frag} {H : Hp} {a b c e : Tr} {v : V} (h : Dp K H v (Tr.cho a b c e).d) : ∃ (p : Addr) (v1 v2 v3 v4 : V), v = .ref p ∧ SqT K H p [v1, v2, v3, v4] ∧ Dp K H v1 a.d ∧ Dp K H v2 b.d ∧ Dp K H v3 c.d ∧ Dp K H v4 e.d := by
  unfold Tr.d at h
  cases h with
  | tup sq al =>
    cases al with | cons h1 al => cases al with | cons h2 al => cases al with | cons h3 al => cases al with | cons h4 al =>
    cases al
    exact ⟨_, _, _, _, _, rfl, sq, h1, h2, h3, h4⟩
theorem tr_tup {K : PySem.W.Frag} {H : Hp} {a b c e : Tr} {p : Addr} {v1 v2 v3 v4 : V} (sq : SqT K H p [v1, v2, v3, v4]) (h1 : Dp K H v1 a.d) (h2 : Dp K H v2 b.d) (h3 : Dp K H v3 c.d) (h4 : Dp K H v4 e.d) : Dp K H (.ref p) (Tr.cho a b c e).d :=
  .tup sq (.cons h1 (.cons h2 (.cons h3 (.cons h4 .nil))))
theorem eqv_refl : ∀ t : Tr, PyData.eqv t.d t.d = true
  | .con n => by simp [Tr.d, PyData.eqv]
  | .var w => by simp [Tr.d, PyData.eqv]
  | .cho a b c e => by simp [Tr.d, PyData.eqv, PyData.eqvAll, eqv_refl a, eqv_refl b, eqv_refl c, eqv_refl e]
theorem eqv_tr : ∀ s t : Tr, PyData.eqv s.d t.d = decide (s = t)
  | .con n, .con m => by simp [Tr.d, PyData.eqv, Bool.beq_eq_decide_eq]
  | .con n, .var _ => by simp [Tr.d, PyData.eqv]
  | .con n, .cho _ _ _ _ => by simp [Tr.d, PyData.eqv]
  | .var n, .con m => by simp [Tr.d, PyData.eqv]
  | .var n, .var m => by simp [Tr.d, PyData.eqv, Bool.beq_eq_decide_eq]
  | .var n, .cho _ _ _ _ => by simp [Tr.d, PyData.eqv]
  | .cho _ _ _ _, .con m => by simp [Tr.d, PyData.eqv]
  | .cho _ _ _ _, .var _ => by simp [Tr.d, PyData.eqv]
  | .cho a b c e, .cho a' b' c' e' => by
    simp only [Tr.d, PyData.eqv, PyData.eqvAll, eqv_tr a a', eqv_tr b b', eqv_tr c c', eqv_tr e e', Tr.cho.injEq, Bool.and_true, Bool.decide_and]
def isLet (c : Nat) : Prop := 97 ≤ c ∧ c ≤ 122
def Word (w : Str) : Prop := 1 ≤ w.length ∧ w.length ≤ 8 ∧ ∀ c ∈ w.cps.toList, isLet c
def Tr.Ok : Tr → Prop
  | .con n => 0 ≤ n ∧ n ≤ 9
  | .var w => Word w
  | .cho a b c e => a.Ok ∧ b.Ok ∧ c.Ok ∧ e.Ok
theorem deep_pos : ∀ t : Tr, 1 ≤ t.deep
  | .con _ => Nat.le_refl _
  | .var _ => Nat.le_refl _
  | .cho a b c e => by unfold Tr.deep; omega
theorem d_depth : ∀ t : Tr, t.d.depth ≤ t.deep
  | .con n => by simp [Tr.d, Tr.deep, PyData.depth]
  | .var w => by simp [Tr.d, Tr.deep, PyData.depth]
  | .cho a b c e => by
    have h1 := d_depth a
    have h2 := d_depth b
    have h3 := d_depth c
    have h4 := d_depth e
    simp only [Tr.d, Tr.deep, PyData.depth, PyData.depthAll]
    omega
end Z
set_option maxRecDepth 100000
set_option maxHeartbeats 4000000
namespace Z
open PySem PySem.Spec PyProof.Rows L2
theorem ps_no {X : Cx} {st : Stmt} : PS X st tNever := ⟨fun _ _ _ _ _ _ h => h.elim⟩
theorem pss_no {X : Cx} {st : List Stmt} : PSs X st tNever := ⟨fun _ _ _ _ _ _ h => h.elim⟩
theorem pe_no {X : Cx} {e : Expr} : PE X e (fun _ _ _ => False) := ⟨fun _ _ _ _ _ _ h => h.elim⟩
section
variable {J : It} {n : Nat} {G : Hp → Prop} {Y : Nat → Hp → V → Hp → Prop}
theorem lc_acc (w : Walk J n G Y) {g : TG} {tt : TT} {te : TE} {vs : List Nat} {σ : L2.St} {H1 : Hp} {D : Addr} {Qd : Hp → Prop} (I : Nat → List V → Hp → Prop) (h0 : I 0 [] (upd H1 D (.lst []))) (hG : ∀ i acc H, i ≤ n → H D = some (.lst acc) → I i acc H → G H)
    (hs : ∀ i x acc H H', i < n → H D = some (.lst acc) → I i acc H → Y i H x H' → g x (wipe σ vs) H' fun σ2 H2 => wipe σ2 vs = wipe σ vs ∧ tt σ2 H2 fun b H3 =>
      if b = true then te σ2 H3 fun y H4 => H4 D = some (.lst acc) ∧ acc.length < sizeLine ∧ I (i + 1) (acc ++ [y]) (upd H4 D (.lst (acc ++ [y]))) else H3 D = some (.lst acc) ∧ I (i + 1) acc H3)
    (mtt : ∀ σ H (P P' : Bool → Hp → Prop), (∀ b H, P b H → P' b H) → tt σ H P → tt σ H P')
    (mte : ∀ σ H (P P' : V → Hp → Prop), (∀ b H, P b H → P' b H) → te σ H P → te σ H P')
    (mg : ∀ x σ H (P P' : L2.St → Hp → Prop), (∀ b H, P b H → P' b H) → g x σ H P → g x σ H P')
    (hd : ∀ acc H, H D = some (.lst acc) → I n acc H → Qd H) :
    ∃ W : Nat → Nat → Hp → Prop, (∃ m, W 0 m (upd H1 D (.lst []))) ∧ ∀ i m H, W i m H →
      (J.stop i H ∧ Qd H) ∨ (J.go i H ∧ ∃ Nx : Hp → Prop, (∀ H', Nx H' → ∃ m', m' < m ∧ W (i + 1) m' H') ∧ ∀ x H', J.yld i H x H' → g x (wipe σ vs) H' fun σ2 H2 => wipe σ2 vs = wipe σ vs ∧ tt σ2 H2 fun b H3 =>
        if b = true then te σ2 H3 fun y H4 => ∃ acc, H4 D = some (.lst acc) ∧ acc.length < sizeLine ∧ Nx (upd H4 D (.lst (acc ++ [y]))) else Nx H3) := by
  refine lc_it w (fun i H => ∃ acc, H D = some (.lst acc) ∧ I i acc H) ⟨[], upd_same, h0⟩ (fun i H hi ⟨acc, e, h⟩ => hG i acc H hi e h) (fun i x H H' hi ⟨acc, e, h⟩ y => ?_) (fun H ⟨acc, e, h⟩ => hd acc H e h)
  refine mg _ _ _ _ _ (fun σ2 H2 ⟨h1, h2⟩ => ⟨h1, mtt _ _ _ _ (fun b H3 h3 => ?_) h2⟩) (hs i x acc H H' hi e h y)
  cases b with
  | true => exact mte _ _ _ _ (fun y H4 ⟨p, q, r⟩ => ⟨acc, p, q, acc ++ [y], upd_same, r⟩) h3
  | false => exact ⟨acc, h3⟩
end
section
variable {prog : Program} {w : World} {A : Around} {E : Value → Shared → Prop} {s : Shared} {K : PySem.W.Frag} {x C : Addr} {ox : Obj} {od : Option Obj}
theorem ifBound_objNe {M : Model} {args : List Value} {Q : Option Value → Shared → Prop} (X : K.In s.heap) (I : PySem.W.InstAt s.heap x ox C od) (hs : PySem.W.findIn K (.ref C) "__ne__" = some (some (.builtin "object.__ne__")))
    (h : wpAny M A (call (.builtin "object.__ne__") (.ref x :: args)) (fun v => Q (some v)) E s) : wpAny M A (callSpecialIfBound? (.ref x) "__ne__" args) Q E s := by
  simp only [callSpecialIfBound?, bindSpecialIfBound?]
  refine wpAny_holding (wpAny_bind (wpAny_bind (wpAny_bind (I.type.here ((PySem.W.looks_findIn X hs).here ?_)))))
  refine wpAny_bind (wpAny_askSetting (wpAny_ite ?_))
  have fin : wpAny M A (call (.builtin "object.__ne__") ([.ref x] ++ args) >>= fun v => pure (some v)) Q E s := wpAny_bind (wpAny_mono h (fun v s' h' => wpAny_pure h') fun _ _ h' => h')
  split
  · exact wpAny_bind (wpAny_of_eq (F.cmp_object.ne.bind _) (wpAny_pure (by exact fin)))
  · exact wpAny_tryCatch (wpAny_bind (wpAny_of_eq (F.cmp_object.ne.bind _) (wpAny_pure (by exact fin))))
theorem ne_entry {f b : Addr} {Q : Fin → Shared → Prop} (hu : A.units < cLine) (X : K.In s.heap) (I : PySem.W.InstAt s.heap x ox C od) (hs : PySem.W.findIn K (.ref C) "__eq__" = some (some (.ref f))) (hf : PySem.W.isFn K (.ref f) = true)
    (h : codeAny (model prog w) A (.call (.ref f) ⟨[.ref x, .ref b], []⟩) (fun r s' => match r with | .ok (.ret v) => ∃ r, v = .bool r ∧ Q (.done (.ret (.bool (!r)))) s' | .ok _ => False | .error e => E e s') s) :
    wpAny (model prog w) A (Builtin.«object.__ne__» ⟨[.ref x, .ref b], []⟩) Q E s := by
  unfold Builtin.«object.__ne__»
  repeat (first | with_reducible refine wpAny_cRoomFor hu ?_ | with_reducible refine PySem.W.ifBound_K X I hs hf ?_ | wp_step)
  refine codeAny_mono h fun r s' hv => ?_
  match r, hv with
  | .ok (.ret v), ⟨r, e, q⟩ =>
    subst e
    dsimp only
    refine wpAny_bind (wpAny_truthy_bool ?_)
    exact wpAny_pure q
  | .error e, hv => exact hv
theorem rc_ne {f b : Addr} {Q : Value → Shared → Prop} (hu : A.units + 1 < cLine) (X : K.In s.heap) (I : PySem.W.InstAt s.heap x ox C od) {oy : Obj} {od' : Option Obj} (J : PySem.W.InstAt s.heap b oy C od') (hn : PySem.W.findIn K (.ref C) "__ne__" = some (some (.builtin "object.__ne__")))
    (hs : PySem.W.findIn K (.ref C) "__eq__" = some (some (.ref f))) (hm : PySem.W.mroIn K C (.type "object") = some true) (hf : PySem.W.isFn K (.ref f) = true)
    (h : codeAny (model prog w) A.in1 (.call (.ref f) ⟨[.ref x, .ref b], []⟩) (fun r s' => match r with | .ok (.ret v) => ∃ r, v = .bool r ∧ Q (.bool (!r)) s' | .ok _ => False | .error e => E e s') s) : wpAny (model prog w) A (richCompare .NotEq (.ref x) (.ref b)) Q E s := by
  have hu0 : A.units < cLine := Nat.lt_of_succ_lt hu
  have one : wpAny (model prog w) A (tryCompare (.ref x) "__ne__" (.ref b)) (fun r s' => ∃ v, r = some v ∧ Q v s') E s := by
    unfold tryCompare
    refine wpAny_bind (ifBound_objNe X I hn ?_)
    refine wpAny_call (codeAny_call_builtin F.cmp_object.ne.plain F.cmpEntry_ne (PySem.W.check_slot F.cmpKind_ne F.cmpSplit_ne (I.type.andThen (PySem.W.looks_mroIn X hm)) (F.cmpArgs_ne _ _) ?_))
    refine ne_entry (A := A.in1) hu X I hs hf (codeAny_mono h fun r s' hv => ?_)
    match r, hv with
    | .ok (.ret v), ⟨r, e, q⟩ =>
      subst e
      exact ⟨r, rfl, wpAny_pure ⟨_, rfl, q⟩⟩
    | .error e, hv => exact hv
  unfold richCompare
  simp only [oneThing_ref, cmpInfo_NotEq]
  refine wpAny_holding (wpAny_bind (wpAny_cRoomFor hu0 ?_))
  refine wpAny_bind (I.type.here (wpAny_bind (J.type.here ?_)))
  simp only [bne_self_eq_false, Bool.false_eq_true, if_false]
  refine wpAny_bind (wpAny_pure ?_)
  simp only [Bool.false_eq_true, if_false]
  refine wpAny_bind (wpAny_mono one (fun r s' z => ?_) fun _ _ e => e)
  obtain ⟨v, rfl, hq⟩ := z
  exact wpAny_pure hq
end
section
variable {X : Cx} {CX : CXT} {C f : Addr} {fd : FuncData} {ps : List Str} {sp : Sp} {E : XK} {n : Nat}
def rNeO (C : Addr) (sp : Sp) (E : XK) : R2 := fun x y H Q => ∃ a b dx dy fs gs, x = .ref a ∧ y = .ref b ∧ H a = some (.ins C dx fs) ∧ H b = some (.ins C dy gs) ∧ sp [.ref a, .ref b] H (fun v H' => ∃ r, v = .bl r ∧ Q (.bl (!r)) H') E
theorem op_neOwn (F : FnOk X.prog X.w X.K X.mg X.base CX n f fd ps sp) (hn : PySem.W.findIn X.K (.ref C) "__ne__" = some (some (.builtin "object.__ne__"))) (hs : PySem.W.findIn X.K (.ref C) "__eq__" = some (some (.ref f)))
    (hm : PySem.W.mroIn X.K C (.type "object") = some true) (hf : PySem.W.isFn X.K (.ref f) = true) (hb : Binds X.K fd ps []) (hx : Passes CX X E) (hr : Room (n + 1) X.A) : OpR X (compareOp .NotEq) (rNeO C sp E) := by
  intro pins s σ H x y u v Q I rx ry d
  obtain ⟨a, b, dx, dy, fs, gs, rfl, rfl, ha, hb', hsp⟩ := d
  cases rx
  cases ry
  obtain ⟨mA, J, _⟩ := ins_get I.hok ha
  obtain ⟨mB, J', _⟩ := ins_get I.hok hb'
  obtain ⟨od, J, _⟩ := J.look
  obtain ⟨od', J', _⟩ := J'.look
  refine rc_ne (hu_of hr) I.kIn J J' hn hs hm hf ?_
  have e0 : Env0 X.prog X.w X.K X.mg X.base X.A.in1 X.stack s H := by
    have e := I.env0
    exact ⟨e.frames, e.mod, e.bs, e.bsz, e.funs, e.frf, e.hok, e.bare⟩
  have hl := F.len _ _ _ _ hsp
  have r2 : Vals [V.ref a, V.ref b] [Value.ref a, Value.ref b] := .cons rfl (.cons rfl .nil)
  refine (codeAny_mono (F.run X.A.in1 X.stack s H ⟨[.ref a, .ref b], []⟩ [.ref a, .ref b] [.ref a, .ref b] _ E hr.in1 e0 (by
    have := hb s [.ref a, .ref b] I.kIn (by simpa using hl)
    simpa using this) r2 hsp) fun r s' hq => ?_)
  cases r with
  | error e => exact hx pins σ H s e s' I hq
  | ok fl =>
    cases fl with
    | ret w =>
      obtain ⟨z, H', I', rz, r, ez, ex⟩ := I.after hq
      subst ez
      cases rz
      exact ⟨r, rfl, .bl (!r), H', I', rfl, ex⟩
    | next => exact False.elim hq
    | brk => exact False.elim hq
    | cont => exact False.elim hq
end
structure CSta (K : PySem.W.Frag) (C : Addr) (mc : Value) (m : Str) (p g : Addr) : Prop where
  rd : PySem.W.readsIn K C mc = true
  ga : PySem.W.specialIn K (.ref C) "__getattribute__" = some (some (.builtin "type.__getattribute__"))
  at_ : PySem.W.findCls K (.ref C) mc m = some (.get (.builtin "staticmethod.__get__") (.ref p) .none (.ref C))
  rc : ∃ rest, PySem.W.recIn K p "staticmethod" = some (.ref g :: rest)
  kp : PySem.W.keepIn K (.ref g) = true
section
variable {X : Cx} {CX : CXT} {k : Nat} {C p g : Addr} {mc : Value} {sp : Sp} {E : XK} {o e : Expr} {es : List Expr} {m : Str} {pos apos : Pos} {ta : TE} {t : TA} {pl : Sem Bool} {fd : FuncData} {ps : List Str} {dvs : List V} {ds : List Value}
def tSta (C : Addr) (sp : Sp) (E : XK) (ta : TE) (t : TA) : TE := fun σ H Q => ta σ H fun x H1 => x = .ref C ∧ t σ H1 fun vs H2 => sp vs H2 Q E
theorem pe_sta (he : PE X o ta) (c : CSta X.K C mc m p g) (F : FnOk X.prog X.w X.K X.mg X.base CX k g fd ps sp) (hr : Room k X.A) (hb : Binds X.K fd ps []) (hx : Passes CX X E) (ha : PA X (e :: es) t)
    (hst : starEach (e :: es) X.env = (false, eval e X.env) :: starEach es X.env := by rfl) (hpl : (backTo pos (starEach es X.env)).any (·.1) = false := by rfl)
    (ht : eval (.Call (.Attribute o m apos) (e :: es) [] pos) X.env = (do
      let ov ← eval o X.env
      standAt apos.atName
      let (f, first) ← holding [ov] (getMethod ov m pl)
      callWith pos f first (backTo pos (starEach (e :: es) X.env)) (backToKw pos (keywordEach [] X.env))) := by rfl) :
    PE X (.Call (.Attribute o m apos) (e :: es) [] pos) (tSta C sp E ta t) := by
  refine ⟨fun pins s σ H Q I h => ?_⟩
  refine PySem.W.methodCall_KW (pl := pl) (thn (he.run pins s σ H _ I h) fun u s1 ⟨x, H1, I1, rx, ex, q⟩ => ?_) ht
  subst ex
  obtain rfl : u = Value.ref C := rx
  obtain ⟨rest, hp⟩ := c.rc
  refine PySem.W.method_cls I1.kIn c.ga (PySem.W.cls_bind I1.kIn c.rd c.at_ (wpAny_call (PySem.W.sm_get (s := { s1 with toks := s1.toks + 1 }) I1.kIn hp (PySem.W.handed_on rfl ?_))))
  refine PySem.W.callWith_K (first := []) (h₀ := X.base) I.ok.mod.kin c.kp (thn (ha.run pos pins _ σ H1 _ (I1.tok _) q) fun us s2 ⟨vs, H2, I2, r, q2⟩ => ⟨I2.kIn, ?_⟩) hst hpl
  exact run_fn (us := us) (vs := vs) F hr hb .nil hx I2 r (by rw [List.append_nil]; exact q2)
end
end Z
set_option maxRecDepth 100000
set_option maxHeartbeats 4000000
namespace Z
open PySem PySem.Spec PyProof.Rows L2
def tx (l : List Nat) : Str := ⟨l.toArray⟩
def ls (s : Str) : List Nat := s.cps.toList
theorem tx_ls (s : Str) : tx (ls s) = s := by cases s; simp [tx, ls]
theorem ls_tx (l : List Nat) : ls (tx l) = l := by simp [tx, ls]
theorem ls_app (a b : Str) : ls (a ++ b) = ls a ++ ls b := by
  show (a.cps ++ b.cps).toList = _
  simp [ls]
theorem ls_len (s : Str) : (ls s).length = s.length := by simp [ls, Str.length]
theorem tx_len (l : List Nat) : (tx l).length = l.length := by simp [tx, Str.length]
theorem len_app (a b : Str) : (a ++ b).length = a.length + b.length := by rw [← ls_len, ls_app, List.length_append, ls_len, ls_len]
theorem str_ext {a b : Str} (h : ls a = ls b) : a = b := by rw [← tx_ls a, ← tx_ls b, h]
def isLB (c : Nat) : Bool := decide (97 ≤ c) && decide (c ≤ 122)
def isDB (c : Nat) : Bool := decide (48 ≤ c) && decide (c ≤ 57)
def sLet : Str := "abcdefghijklmnopqrstuvwxyz"
def sDig : Str := "0123456789"
theorem ls_let : ls sLet = List.range' 97 26 := by decide +kernel
theorem ls_dig : ls sDig = List.range' 48 10 := by decide +kernel
theorem mem_let (c : Nat) : decide (c ∈ ls sLet) = isLB c := by
  rw [ls_let]
  unfold isLB
  rw [← Bool.decide_and]
  congr 1
  rw [List.mem_range'_1]
  apply propext
  omega
theorem mem_dig (c : Nat) : decide (c ∈ ls sDig) = isDB c := by
  rw [ls_dig]
  unfold isDB
  rw [← Bool.decide_and]
  congr 1
  rw [List.mem_range'_1]
  apply propext
  omega
theorem mem_let' (c : Nat) : decide (c ∈ ("abcdefghijklmnopqrstuvwxyz" : Str).cps.toList) = isLB c := mem_let c
theorem mem_dig' (c : Nat) : decide (c ∈ ("0123456789" : Str).cps.toList) = isDB c := mem_dig c
theorem isLB_iff {c : Nat} : isLB c = true ↔ isLet c := by simp [isLB, isLet]
def wordB (l : List Nat) : Bool := (decide (1 ≤ l.length) && decide (l.length ≤ 8)) && l.all isLB
theorem wordB_iff {w : Str} : wordB (ls w) = true ↔ Word w := by
  unfold wordB Word
  rw [ls_len, Bool.and_eq_true, Bool.and_eq_true, decide_eq_true_eq, decide_eq_true_eq, List.all_eq_true]
  exact ⟨fun ⟨⟨a, b⟩, c⟩ => ⟨a, b, fun x hx => isLB_iff.mp (c x hx)⟩, fun ⟨a, b, c⟩ => ⟨⟨a, b⟩, fun x hx => isLB_iff.mpr (c x hx)⟩⟩
def plp (f : List Nat → Option (Tr × List Nat)) : List Nat → List Nat → Option (List Tr × List Nat)
  | [], r => some ([], r)
  | s :: ss, r => match f r with
    | some (t, c :: q) => if c = s then (match plp f ss q with
      | some (ts, z) => some (t :: ts, z)
      | none => none) else none
    | _ => none
def plx : Option (List Tr × List Nat) → Option (Tr × List Nat)
  | some ([a, b, c, e], z) => some (.cho a b c e, z)
  | _ => none
def pl : Nat → List Nat → Option (Tr × List Nat)
  | 0, _ => none
  | d + 1, [] => none
  | d + 1, c :: r =>
    if isDB c = true then some (.con ((c : Int) - 48), r)
    else if wordB ((c :: r).takeWhile isLB) = true then some (.var (tx ((c :: r).takeWhile isLB)), (c :: r).dropWhile isLB)
    else if c ≠ 40 ∨ d = 0 then none
    else plx (plp (pl d) [61, 63, 58, 41] r)
theorem plp_len {f : List Nat → Option (Tr × List Nat)} : ∀ {ss r ts z}, plp f ss r = some (ts, z) → ts.length = ss.length
  | [], r, ts, z, h => by
    simp [plp] at h
    rw [h.1]
    rfl
  | s :: ss, r, ts, z, h => by
    unfold plp at h
    split at h
    · rename_i t c q e
      split at h
      · split at h
        · rename_i us y e2
          cases h
          rw [List.length_cons, List.length_cons, plp_len e2]
        · cases h
      · cases h
    · cases h
def planOf (z : Str) : Option Tr := match pl 3 (ls z) with
  | some (t, []) => some t
  | _ => none
def Ends (r : List Nat) : Prop := ∀ c q, r = c :: q → isLB c = false
theorem take_word {l r : List Nat} (h : ∀ c ∈ l, isLB c = true) (e : Ends r) : (l ++ r).takeWhile isLB = l ∧ (l ++ r).dropWhile isLB = r := by
  induction l with
  | nil =>
    cases r with
    | nil => exact ⟨rfl, rfl⟩
    | cons c q =>
      have := e c q rfl
      simp [this]
  | cons c l ih =>
    have h1 := h c List.mem_cons_self
    have := ih fun x hx => h x (List.mem_cons_of_mem _ hx)
    simp only [List.cons_append, List.takeWhile_cons, List.dropWhile_cons, h1, if_true]
    exact ⟨congrArg (c :: ·) this.1, this.2⟩
theorem con_text {n : Int} (h : 0 ≤ n ∧ n ≤ 9) : ls (Tr.con n).text = [48 + n.toNat] := by
  have : n = 0 ∨ n = 1 ∨ n = 2 ∨ n = 3 ∨ n = 4 ∨ n = 5 ∨ n = 6 ∨ n = 7 ∨ n = 8 ∨ n = 9 := by omega
  rcases this with rfl | rfl | rfl | rfl | rfl | rfl | rfl | rfl | rfl | rfl <;> decide +kernel
theorem cho_text (a b c e : Tr) : ls (Tr.cho a b c e).text = 40 :: (ls a.text ++ (61 :: (ls b.text ++ (63 :: (ls c.text ++ (58 :: (ls e.text ++ [41]))))))) := by
  show ls (Tr.str "(" ++ a.text ++ Tr.str "=" ++ b.text ++ Tr.str "?" ++ c.text ++ Tr.str ":" ++ e.text ++ Tr.str ")") = _
  simp only [ls_app]
  have h1 : ls (Tr.str "(") = [40] := by decide +kernel
  have h2 : ls (Tr.str "=") = [61] := by decide +kernel
  have h3 : ls (Tr.str "?") = [63] := by decide +kernel
  have h4 : ls (Tr.str ":") = [58] := by decide +kernel
  have h5 : ls (Tr.str ")") = [41] := by decide +kernel
  rw [h1, h2, h3, h4, h5]
  simp
theorem pl_text : ∀ (t : Tr) (d : Nat) (r : List Nat), t.Ok → t.deep ≤ d → Ends r → pl d (ls t.text ++ r) = some (t, r)
  | .con n, d, r, ok, hd, e => by
    obtain ⟨d, rfl⟩ : ∃ k, d = k + 1 := ⟨d - 1, by have := deep_pos (.con n); omega⟩
    have ok' : 0 ≤ n ∧ n ≤ 9 := ok
    rw [con_text ok']
    show pl (d + 1) ((48 + n.toNat) :: r) = _
    unfold pl
    have : isDB (48 + n.toNat) = true := by
      unfold isDB
      simp
      omega
    rw [if_pos this]
    have z : ((48 + n.toNat : Nat) : Int) - 48 = n := by omega
    rw [z]
  | .var w, d, r, ok, hd, e => by
    obtain ⟨d, rfl⟩ : ∃ k, d = k + 1 := ⟨d - 1, by have := deep_pos (.var w); omega⟩
    have ok' : Word w := ok
    have wb := wordB_iff.mpr ok'
    have al : ∀ c ∈ ls w, isLB c = true := fun c hc => isLB_iff.mpr (ok'.2.2 c hc)
    obtain ⟨t1, t2⟩ := take_word al e
    show pl (d + 1) (ls w ++ r) = _
    have ne : 1 ≤ (ls w).length := by rw [ls_len]; exact ok'.1
    generalize hl : ls w = l at *
    cases l with
    | nil => simp at ne
    | cons c l =>
      have hc := al c List.mem_cons_self
      show pl (d + 1) (c :: (l ++ r)) = _
      unfold pl
      have nd : isDB c = false := by
        unfold isLB at hc
        unfold isDB
        simp at hc ⊢
        omega
      rw [if_neg (by rw [nd]; decide)]
      have t1' : (c :: (l ++ r)).takeWhile isLB = c :: l := t1
      have t2' : (c :: (l ++ r)).dropWhile isLB = r := t2
      rw [t1', t2', if_pos wb, ← hl, tx_ls]
  | .cho a b c f, d, r, ok, hd, e => by
    obtain ⟨oa, ob, oc, oe⟩ : a.Ok ∧ b.Ok ∧ c.Ok ∧ f.Ok := ok
    have hd' : 1 + max (max a.deep b.deep) (max c.deep f.deep) ≤ d := hd
    obtain ⟨d, rfl⟩ : ∃ k, d = k + 1 := ⟨d - 1, by omega⟩
    rw [cho_text]
    have pa := deep_pos a
    have E : ∀ s : Nat, isLB s = false → ∀ q : List Nat, Ends (s :: q) := fun s hs q c q' h => by
      cases h
      exact hs
    have ha := pl_text a d (61 :: (ls b.text ++ (63 :: (ls c.text ++ (58 :: (ls f.text ++ (41 :: r))))))) oa (by omega) (E _ (by decide) _)
    have hb := pl_text b d (63 :: (ls c.text ++ (58 :: (ls f.text ++ (41 :: r))))) ob (by omega) (E _ (by decide) _)
    have hc := pl_text c d (58 :: (ls f.text ++ (41 :: r))) oc (by omega) (E _ (by decide) _)
    have he := pl_text f d (41 :: r) oe (by omega) (E _ (by decide) _)
    simp only [List.cons_append, List.append_assoc, List.nil_append]
    unfold pl
    have h1 : isDB 40 = false := by decide
    have h2 : ∀ q : List Nat, (40 :: q).takeWhile isLB = [] := fun q => by
      have : isLB 40 = false := by decide
      simp [this]
    rw [if_neg (by rw [h1]; decide), h2, if_neg (by decide), if_neg (by omega)]
    simp only [plp, ha, hb, hc, he, plx, if_true]
theorem plan_text {t : Tr} (ok : t.Ok) (hd : t.deep ≤ 3) : planOf t.text = some t := by
  unfold planOf
  have := pl_text t 3 [] ok hd (fun c q h => by cases h)
  rw [List.append_nil] at this
  rw [this]
def tB : Nat → Nat
  | 0 => 0
  | d + 1 => 4 * tB d + 8
theorem text_len : ∀ (d : Nat) (t : Tr), t.Ok → t.deep ≤ d → t.text.length ≤ tB d
  | 0, t, _, hd => by have := deep_pos t; omega
  | d + 1, .con n, ok, hd => by
    rw [← ls_len, con_text ok]
    show 1 ≤ 4 * tB d + 8
    omega
  | d + 1, .var w, ok, hd => by
    have ok' : Word w := ok
    show w.length ≤ 4 * tB d + 8
    have := ok'.2.1
    omega
  | d + 1, .cho a b c e, ok, hd => by
    obtain ⟨oa, ob, oc, oe⟩ : a.Ok ∧ b.Ok ∧ c.Ok ∧ e.Ok := ok
    have hd' : 1 + max (max a.deep b.deep) (max c.deep e.deep) ≤ d + 1 := hd
    have h1 := text_len d a oa (by omega)
    have h2 := text_len d b ob (by omega)
    have h3 := text_len d c oc (by omega)
    have h4 := text_len d e oe (by omega)
    rw [← ls_len, cho_text]
    simp only [List.length_cons, List.length_append, ls_len, List.length_nil]
    show _ ≤ 4 * tB d + 8
    omega
theorem text_small {t : Tr} (ok : t.Ok) (hd : t.deep ≤ 3) : t.text.length ≤ 168 := text_len 3 t ok hd
def Tr.has (p : Tr) : Tr → Bool
  | .con n => decide (p = .con n)
  | .var w => decide (p = .var w)
  | .cho a b c e => decide (p = .cho a b c e) || (p.has a || (p.has b || (p.has c || p.has e)))
theorem show_small : ∀ (t : Tr), t.Ok → t.d.showable = true
  | .con n, ok => by
    have ok' : 0 ≤ n ∧ n ≤ 9 := ok
    have : n.natAbs.log2 < 1920 := Nat.lt_of_le_of_lt (Nat.log2_le_self _) (by omega)
    simp [Tr.d, PyData.showable, this]
  | .var w, ok => by simp [Tr.d, PyData.showable]
  | .cho a b c e, ok => by
    obtain ⟨oa, ob, oc, oe⟩ : a.Ok ∧ b.Ok ∧ c.Ok ∧ e.Ok := ok
    simp [Tr.d, PyData.showable, PyData.showableAll, show_small a oa, show_small b ob, show_small c oc, show_small e oe]
def sB : Nat → Nat
  | 0 => 0
  | d + 1 => 4 * sB d + 90
theorem shown_len : ∀ (d : Nat) (t : Tr), t.Ok → t.deep ≤ d → t.d.shown.length ≤ sB d
  | 0, t, _, hd => by have := deep_pos t; omega
  | d + 1, .con n, ok, hd => by
    have : (Tr.con n).d.shown = (Tr.con n).text := by
      unfold Tr.d
      simp only [PyData.shown]
      rfl
    rw [this, ← ls_len, con_text ok]
    show 1 ≤ 4 * sB d + 90
    omega
  | d + 1, .var w, ok, hd => by
    have ok' : Word w := ok
    have : (Tr.var w).d.shown = reprText w := by
      unfold Tr.d
      simp only [PyData.shown]
    rw [this]
    have h := PySem.StrLaws.reprText_len w fun c hc => by
      have := (ok'.2.2 c hc).2
      exact Nat.lt_of_le_of_lt this (by decide)
    have := ok'.2.1
    show _ ≤ 4 * sB d + 90
    omega
  | d + 1, .cho a b c e, ok, hd => by
    obtain ⟨oa, ob, oc, oe⟩ : a.Ok ∧ b.Ok ∧ c.Ok ∧ e.Ok := ok
    have hd' : 1 + max (max a.deep b.deep) (max c.deep e.deep) ≤ d + 1 := hd
    have h1 := shown_len d a oa (by omega)
    have h2 := shown_len d b ob (by omega)
    have h3 := shown_len d c oc (by omega)
    have h4 := shown_len d e oe (by omega)
    have : (Tr.cho a b c e).d.shown = tupleText [a.d.shown, b.d.shown, c.d.shown, e.d.shown] := by
      conv => lhs; unfold Tr.d
      simp only [PyData.shown, PyData.shownAll]
    rw [this]
    refine Nat.le_trans (tupleText_len_le _) ?_
    simp only [List.map_cons, List.map_nil, List.sum_cons, List.sum_nil, List.length_cons, List.length_nil]
    show _ ≤ 4 * sB d + 90
    omega
theorem shown_small {t : Tr} (ok : t.Ok) (hd : t.deep ≤ 3) : t.d.shown.length ≤ sizeLine := Nat.le_trans (shown_len 3 t ok hd) (by decide)
end Z
set_option maxRecDepth 100000
set_option maxHeartbeats 4000000
namespace Z
open PySem PySem.Spec PyProof.Rows L2
section
variable {X : Cx} {CX : CXT} {k : Nat} {f C : Addr} {fd : FuncData} {ps : List Str} {sp : Sp} {E : L2.St → XK} {x m : Str} {p pos apos : Pos} {e o : Expr} {es : List Expr} {ta : TE} {t : TA}
def tMethX (C : Addr) (m : Str) (sp : Sp) (E : L2.St → XK) (ta : TE) (t : TA) : TE := fun σ H Q => ta σ H fun x H1 => ∃ a dx fs, x = .ref a ∧ H1 a = some (.ins C dx fs) ∧ fs.lookup m = none ∧ t σ H1 fun vs H2 => sp (x :: vs) H2 Q (E σ)
theorem pe_methX {pl : Sem Bool} (he : PE X o ta) (c : Cls X.K C) (hm : Meth X.K C m f) (F : FnOk X.prog X.w X.K X.mg X.base CX k f fd ps sp) (hr : Room k X.A) (hb : Binds X.K fd ps []) (hx : ∀ σ, PassesAt CX X σ (E σ)) (ha : PA X (e :: es) t)
    (hst : starEach (e :: es) X.env = (false, eval e X.env) :: starEach es X.env := by rfl) (hpl : (backTo pos (starEach es X.env)).any (·.1) = false := by rfl)
    (ht : eval (.Call (.Attribute o m apos) (e :: es) [] pos) X.env = (do
      let ov ← eval o X.env
      standAt apos.atName
      let (f, first) ← holding [ov] (getMethod ov m pl)
      callWith pos f first (backTo pos (starEach (e :: es) X.env)) (backToKw pos (keywordEach [] X.env))) := by rfl) :
    PE X (.Call (.Attribute o m apos) (e :: es) [] pos) (tMethX C m sp E ta t) := by
  refine ⟨fun pins s σ H Q I h => ?_⟩
  refine PySem.W.methodCall_KW (pl := pl) (thn (he.run pins s σ H _ I h) fun u s1 ⟨x, H1, I1, rx, a, dx, fs, ex, ea, l, q⟩ => ?_) ht
  subst ex
  obtain rfl : u = Value.ref a := rx
  refine getmeth_ok I1 ea c hm l ?_
  refine PySem.W.callWith_K (first := [.ref a]) (h₀ := X.base) I.ok.mod.kin hm.kp (thn (ha.run pos pins s1 σ H1 _ I1 q) fun us s2 ⟨vs, H2, I2, r, q2⟩ => ⟨I2.kIn, ?_⟩) hst hpl
  exact run_fnS (us := .ref a :: us) (vs := .ref a :: vs) F hr hb (hx σ) I2 (.cons rfl r) q2
theorem pe_gs {s : Str} (h : ∃ t, X.mg x = some (.str s t)) (hg : Gl X x := by rfl) (hd : (x == ("__debug__" : Str)) = false := by decide) : PE X (.Name x pos) (tC (.str s)) := by
  obtain ⟨t, h⟩ := h
  exact pe_glob hg h ⟨t, rfl⟩ hd
theorem pe_gi {s : Int} (h : ∃ t, X.mg x = some (.int s t)) (hg : Gl X x := by rfl) (hd : (x == ("__debug__" : Str)) = false := by decide) : PE X (.Name x pos) (tC (.int s)) := by
  obtain ⟨t, h⟩ := h
  exact pe_glob hg h ⟨t, rfl⟩ hd
theorem pe_gr {a : Addr} (h : X.mg x = some (.ref a)) (hg : Gl X x := by rfl) (hd : (x == ("__debug__" : Str)) = false := by decide) : PE X (.Name x pos) (tC (.ref a)) := pe_glob hg h rfl hd
end
theorem tyT {K : PySem.W.Frag} {H : Hp} {p : Addr} {xs : List V} (h : SqT K H p xs) : TyX K H (.ref p) (.type "tuple") := by
  rcases h with (h | ⟨o, h⟩) | ⟨o, vs, n, h, c, _⟩
  · exact .base (.tup h)
  · exact .fTuple h
  · exact .kTuple h c
def Tr.isT : Tr → Bool
  | .cho _ _ _ _ => true
  | _ => false
theorem k_tt : kitB "tuple" "tuple" = some true := by decide +kernel
theorem k_it : kitB "int" "tuple" = some false := by decide +kernel
theorem k_st : kitB "str" "tuple" = some false := by decide +kernel
theorem k_ii : kitB "int" "int" = some true := by decide +kernel
theorem k_ib : kitB "int" "bool" = some false := by decide +kernel
theorem k_si : kitB "str" "int" = some false := by decide +kernel
theorem k_ss : kitB "str" "str" = some true := by decide +kernel
theorem isiTr {K : PySem.W.Frag} {H : Hp} {t : Tr} {v : V} {Q : VK} (h : Dp K H v t.d) (q : Q (.bl t.isT) H) : rIsi K [v, .ty "tuple"] H Q ∨ rIsiT K [v, .ty "tuple"] H Q := by
  cases t with
  | con n =>
    obtain rfl := tr_con h
    exact isiTy (.base (.int n)) k_it q
  | var w =>
    obtain rfl := tr_var h
    exact isiTy (.base (.str w)) k_st q
  | cho a b c e =>
    obtain ⟨p, v1, v2, v3, v4, rfl, sq, _⟩ := tr_cho h
    exact isiTy (tyT sq) k_tt q
def Tr.Fine (t : Tr) : Prop := t.Ok ∧ t.deep ≤ 60
theorem word_strOk {w : Str} (h : Word w) : PyData.strOk w = true := by
  unfold PyData.strOk
  rw [← Array.all_toList, List.all_eq_true]
  intro c hc
  have := (h.2.2 c hc).2
  exact decide_eq_true (by omega)
theorem canLay_tr : ∀ t : Tr, t.Ok → PyData.canLay0 t.d = true
  | .con n, _ => by simp [Tr.d, PyData.canLay0]
  | .var w, ok => by
    have := word_strOk (show Word w from ok)
    simp [Tr.d, PyData.canLay0, this]
  | .cho a b c e, ok => by
    obtain ⟨oa, ob, oc, oe⟩ : a.Ok ∧ b.Ok ∧ c.Ok ∧ e.Ok := ok
    simp [Tr.d, PyData.canLay0, PyData.canLayAll0, canLay_tr a oa, canLay_tr b ob, canLay_tr c oc, canLay_tr e oe]
theorem shaped_tr {t : Tr} (h : t.Fine) : SeqAt.shaped t.d = true := by
  have h1 := canLay_tr t h.1
  have h2 := d_depth t
  have h3 := h.2
  unfold SeqAt.shaped
  rw [h1, Bool.true_and]
  exact decide_eq_true (by omega)
section
variable {X : Cx}
def rEqE (K : PySem.W.Frag) (neg : Bool) : R2 := fun x y H Q => ∃ a b xs, x = .ref a ∧ y = .ref b ∧ SqL K H a xs ∧ SqL K H b [] ∧ Q (.bl (if neg then !xs.isEmpty else xs.isEmpty)) H
theorem op_eqE (hu : X.A.units < cLine) : OpR X (compareOp .Eq) (rEqE X.K false) := by
  intro pins s σ H x y u v Q I rx ry ⟨a, b, xs, e1, e2, h1, h2, q⟩
  subst e1; subst e2
  cases rx
  cases ry
  obtain ⟨its, r, p, _⟩ := I.list h1
  obtain ⟨its2, r2, p2, _⟩ := I.list h2
  cases r2
  have hl : s.heap.IsList a its.toArray := by obtain ⟨o, n, e1, e2, e3, e4⟩ := p; exact ⟨_, e1, e2, n, e4⟩
  have hb : s.heap.IsList b #[] := by obtain ⟨o, n, e1, e2, e3, e4⟩ := p2; exact ⟨_, e1, e2, n, e4⟩
  cases r with
  | nil => exact SeqAt.RcAt.lists (e := fun _ => true) hl hb rfl hu (fun j h1 _ => absurd h1 (Nat.not_lt_zero _)) _ _ _ _ ⟨.bl true, H, I, rfl, q⟩
  | cons r1 r2 => exact SeqAt.RcAt.lists_lengths hl hb (by simp) hu _ _ _ _ ⟨.bl false, H, I, rfl, q⟩
theorem op_neE (hu : X.A.units < cLine) : OpR X (compareOp .NotEq) (rEqE X.K true) := by
  intro pins s σ H x y u v Q I rx ry ⟨a, b, xs, e1, e2, h1, h2, q⟩
  subst e1; subst e2
  cases rx
  cases ry
  obtain ⟨its, r, p, _⟩ := I.list h1
  obtain ⟨its2, r2, p2, _⟩ := I.list h2
  cases r2
  have hl : s.heap.IsList a its.toArray := by obtain ⟨o, n, e1, e2, e3, e4⟩ := p; exact ⟨_, e1, e2, n, e4⟩
  have hb : s.heap.IsList b #[] := by obtain ⟨o, n, e1, e2, e3, e4⟩ := p2; exact ⟨_, e1, e2, n, e4⟩
  cases r with
  | nil => exact SeqAt.RcNeAt.lists (e := fun _ => true) hl hb rfl hu (fun j h1 _ => absurd h1 (Nat.not_lt_zero _)) _ _ _ _ ⟨.bl false, H, I, rfl, q⟩
  | cons r1 r2 => exact SeqAt.RcNeAt.lists_lengths hl hb (by simp) hu _ _ _ _ ⟨.bl true, H, I, rfl, q⟩
structure rEqX (K : PySem.W.Frag) (x y : V) (H : Hp) (Q : VK) : Prop where
  h : rEq x y H Q ∨ rEqE K false x y H Q ∨ rEqD K x y H Q
structure rNeX (K : PySem.W.Frag) (x y : V) (H : Hp) (Q : VK) : Prop where
  h : rNe x y H Q ∨ rEqE K true x y H Q ∨ rNeD K x y H Q
theorem op_eqX {k : Nat} {K : PySem.W.Frag} (hr : Room k X.A) (hk : X.K = K := by rfl) : OpR X (compareOp .Eq) (rEqX K) := by
  subst hk
  exact OpR.box (OpR.or op_eq (OpR.or (op_eqE hr.units0) (op_eqD hr.units))) fun _ _ _ _ q => q.h
theorem op_neX {k : Nat} {K : PySem.W.Frag} (hr : Room k X.A) (hk : X.K = K := by rfl) : OpR X (compareOp .NotEq) (rNeX K) := by
  subst hk
  exact OpR.box (OpR.or op_ne (OpR.or (op_neE hr.units0) (op_neD hr.units))) fun _ _ _ _ q => q.h
theorem op_eqU {K : PySem.W.Frag} (hu : X.A.units + 64 < cLine) (hk : X.K = K := by rfl) : OpR X (compareOp .Eq) (rEqX K) := by
  subst hk
  exact OpR.box (OpR.or op_eq (OpR.or (op_eqE (Nat.lt_of_le_of_lt (Nat.le_add_right _ _) hu)) (op_eqD hu))) fun _ _ _ _ q => q.h
structure rIxA (K : PySem.W.Frag) (x y : V) (H : Hp) (Q : VK) : Prop where
  h : rIx K x y H Q
theorem IxR.box {r r' : R2} (h : IxR X r) (e : ∀ x y H Q, r' x y H Q → r x y H Q) : IxR X r' := fun a b pins s σ H x y v u Q I rx ry q => h a b pins s σ H x y v u Q I rx ry (e _ _ _ _ q)
theorem ix_A {K : PySem.W.Frag} (hk : X.K = K := by rfl) : IxR X (rIxA K) := by
  subst hk
  exact IxR.box ix_seq fun _ _ _ _ q => q.h
end
theorem eqI {K : PySem.W.Frag} {H : Hp} {Q : VK} {i j : Int} (q : Q (.bl (decide (i = j))) H) : rEqX K (.int i) (.int j) H Q := ⟨.inl ⟨rfl, by simpa using q⟩⟩
theorem neI {K : PySem.W.Frag} {H : Hp} {Q : VK} {i j : Int} (q : Q (.bl (!decide (i = j))) H) : rNeX K (.int i) (.int j) H Q := ⟨.inl ⟨rfl, by simpa using q⟩⟩
theorem eqS {K : PySem.W.Frag} {H : Hp} {Q : VK} {i j : Str} (q : Q (.bl (decide (i = j))) H) : rEqX K (.str i) (.str j) H Q := ⟨.inl ⟨rfl, by simpa using q⟩⟩
theorem neS {K : PySem.W.Frag} {H : Hp} {Q : VK} {i j : Str} (q : Q (.bl (!decide (i = j))) H) : rNeX K (.str i) (.str j) H Q := ⟨.inl ⟨rfl, by simpa using q⟩⟩
theorem neB {K : PySem.W.Frag} {H : Hp} {Q : VK} {i j : Bool} (q : Q (.bl (!decide (i = j))) H) : rNeX K (.bl i) (.bl j) H Q := ⟨.inl ⟨rfl, by simpa using q⟩⟩
theorem eqT {K : PySem.W.Frag} {H : Hp} {Q : VK} {x y : V} {s t : Tr} (h : Dp K H x s.d) (h' : Dp K H y t.d) (hs : s.Fine) (ht : t.Fine) (q : Q (.bl (decide (s = t))) H) : rEqX K x y H Q :=
  ⟨.inr (.inr ⟨_, _, h, h', shaped_tr hs, shaped_tr ht, by rw [eqv_tr]; exact q⟩)⟩
theorem eqL0 {K : PySem.W.Frag} {H : Hp} {Q : VK} {a b : Addr} {xs : List V} (ha : SqL K H a xs) (hb : H b = some (.lst [])) (q : Q (.bl xs.isEmpty) H) : rEqX K (.ref a) (.ref b) H Q := ⟨.inr (.inl ⟨a, b, xs, rfl, rfl, ha, .inl (.inl hb), q⟩)⟩
theorem neL0 {K : PySem.W.Frag} {H : Hp} {Q : VK} {a b : Addr} {xs : List V} (ha : SqL K H a xs) (hb : H b = some (.lst [])) (q : Q (.bl (!xs.isEmpty)) H) : rNeX K (.ref a) (.ref b) H Q := ⟨.inr (.inl ⟨a, b, xs, rfl, rfl, ha, .inl (.inl hb), q⟩)⟩
theorem atI_nat {α : Type} {xs : List α} {i : Nat} {v : α} (e : xs[i]? = some v) : atI xs (i : Int) = some v := by
  have h := (List.getElem?_eq_some_iff.mp e).1
  unfold atI ixN
  rw [if_pos (Int.natCast_nonneg _), if_pos (Int.ofNat_lt.mpr h)]
  simpa using e
theorem ixL {K : PySem.W.Frag} {H : Hp} {Q : VK} {a : Addr} {xs : List V} {i : Nat} {v : V} (h : SqL K H a xs) (e : xs[i]? = some v) (q : Q v H) : rIxA K (.ref a) (.int i) H Q := ⟨.inl ⟨a, xs, i, v, rfl, rfl, h, atI_nat e, q⟩⟩
theorem ixT {K : PySem.W.Frag} {H : Hp} {Q : VK} {a : Addr} {xs : List V} {i : Nat} {v : V} (h : SqT K H a xs) (e : xs[i]? = some v) (q : Q v H) : rIxA K (.ref a) (.int i) H Q := ⟨.inr (.inl ⟨a, xs, i, v, rfl, rfl, h, atI_nat e, q⟩)⟩
theorem ixS {K : PySem.W.Frag} {H : Hp} {Q : VK} {z : Str} {i : Nat} {c : Nat} (h : z.length ≤ sizeLine) (e : (ls z)[i]? = some c) (q : Q (.str (tx [c])) H) : rIxA K (.str z) (.int i) H Q := ⟨.inr (.inr ⟨z, i, c, rfl, rfl, h, atI_nat e, q⟩)⟩
end Z
set_option maxRecDepth 100000
set_option maxHeartbeats 4000000
namespace Z
open PySem PySem.Spec PyProof.Rows L2
section
variable {X : Cx}
def Flat1 (v : V) : Prop := (∃ s : Str, v = .str s) ∨ ∃ b : Bool, v = .bl b
structure rNeSame (K : PySem.W.Frag) (x y : V) (H : Hp) (Q : VK) : Prop where
  h : ∃ a b xs, x = .ref a ∧ y = .ref b ∧ SqL K H a xs ∧ SqL K H b xs ∧ (∀ v ∈ xs, Flat1 v) ∧ Q (.bl false) H
theorem op_neSame {k : Nat} {K : PySem.W.Frag} (hr : Room k X.A) (hk : X.K = K := by rfl) : OpR X (compareOp .NotEq) (rNeSame K) := by
  subst hk
  intro pins s σ H x y u v Q I rx ry ⟨a, b, xs, e1, e2, h1, h2, fl, q⟩
  subst e1; subst e2
  cases rx
  cases ry
  obtain ⟨its, r, p, _⟩ := I.list h1
  obtain ⟨its2, r2, p2, _⟩ := I.list h2
  have hl : s.heap.IsList a its.toArray := by obtain ⟨o, n, e1, e2, e3, e4⟩ := p; exact ⟨_, e1, e2, n, e4⟩
  have hb : s.heap.IsList b its2.toArray := by obtain ⟨o, n, e1, e2, e3, e4⟩ := p2; exact ⟨_, e1, e2, n, e4⟩
  have hsz : its.toArray.size = its2.toArray.size := by rw [List.size_toArray, List.size_toArray, ← r.length, ← r2.length]
  have := SeqAt.RcNeAt.lists (A := X.A) (e := fun _ => true) hl hb hsz hr.units0 (fun j j1 j2 => by
    have hj : j < xs.length := by rw [r.length]; simpa using j1
    have g : xs[j]? = some xs[j] := by simp [hj]
    obtain ⟨u1, z1, w1⟩ := r.get g
    obtain ⟨u2, z2, w2⟩ := r2.get g
    have q1 : its.toArray[j] = u1 := by
      rw [List.getElem_toArray]
      exact Option.some.inj ((List.getElem?_eq_getElem _).symm.trans z1)
    have q2 : its2.toArray[j] = u2 := by
      rw [List.getElem_toArray]
      exact Option.some.inj ((List.getElem?_eq_getElem _).symm.trans z2)
    rw [q1, q2]
    rcases fl _ (List.getElem_mem hj) with ⟨y, e⟩ | ⟨y, e⟩
    · rw [e] at w1 w2
      obtain ⟨t1, rfl⟩ := w1
      obtain ⟨t2, rfl⟩ := w2
      have := SeqAt.EqAt.str_str (A := X.A.in1) (s := s) y t1 y t2
      rwa [beq_self_eq_true] at this
    · rw [e] at w1 w2
      obtain rfl : u1 = Value.bool y := w1
      obtain rfl : u2 = Value.bool y := w2
      have := SeqAt.EqAt.bool_bool (A := X.A.in1) (s := s) y y
      rwa [beq_self_eq_true] at this) X.prog X.w X.xe
  refine this _ ?_
  refine ⟨.bl false, H, I, ?_, q⟩
  show Value.bool _ = Value.bool false
  congr 1
  simp
theorem neSame {K : PySem.W.Frag} {a b : Addr} {xs : List V} {H : Hp} {Q : VK} (h1 : SqL K H a xs) (h2 : SqL K H b xs) (fl : ∀ v ∈ xs, Flat1 v) (q : Q (.bl false) H) : rNeSame K (.ref a) (.ref b) H Q := ⟨a, b, xs, rfl, rfl, h1, h2, fl, q⟩
theorem fold_cps (l : List (Array Nat)) : ∀ acc : Array Nat, (l.foldl (· ++ ·) acc).toList = acc.toList ++ (l.map Array.toList).flatten := by
  induction l with
  | nil => intro acc; simp
  | cons x l ih => intro acc; rw [List.foldl_cons, ih]; simp
theorem rep_sign (n c : Nat) : (List.replicate n (#[c] : Array Nat)).foldl (· ++ ·) #[] = (tx (List.replicate n c)).cps := by
  apply Array.toList_inj.mp
  rw [fold_cps]
  show _ = ls (tx (List.replicate n c))
  rw [ls_tx]
  induction n with
  | zero => rfl
  | succ n ih =>
    rw [List.replicate_succ, List.map_cons, List.flatten_cons]
    rw [List.replicate_succ]
    simp only [List.nil_append] at ih ⊢
    rw [ih]
    rfl
structure rMulSg (x y : V) (H : Hp) (Q : VK) : Prop where
  h : ∃ (c n : Nat), x = .str (tx [c]) ∧ y = .int (n : Nat) ∧ 2 ≤ n ∧ n ≤ sizeLine ∧ Q (.str (tx (List.replicate n c))) H
theorem op_mulSg : OpR X (binaryOp .Mult) rMulSg := by
  intro pins s σ H x y u v Q I rx ry ⟨c, n, e1, e2, h2, hn, q⟩
  subst e1; subst e2
  obtain ⟨t, rfl⟩ := rx
  obtain ⟨t', rfl⟩ := ry
  have sl := PySem.sizeLine_eq
  refine PySem.P.mul_str ?_ ?_ ?_ ?_
  · rw [decide_eq_false (by omega), decide_eq_false (by omega)]
    rfl
  · intro _ _
    rw [tx_len]
    have : (1 : Int) ≤ (2 ^ 63 - 1) / (n : Int) := by
      rw [Int.le_ediv_iff_mul_le (by omega)]
      omega
    show ¬ (((1 : Nat) : Int) > _)
    omega
  · intro _ _
    rw [tx_len]
    show decide (1 * n > sizeLine) = false
    exact decide_eq_false (by omega)
  · rw [if_neg (by omega), if_neg (by
      rw [tx_len]
      simp
      omega)]
    have e : (⟨(List.replicate ((n : Int)).toNat (tx [c]).cps).foldl (· ++ ·) #[]⟩ : Str) = tx (List.replicate n c) := by
      show (⟨(List.replicate n (#[c] : Array Nat)).foldl (· ++ ·) #[]⟩ : Str) = _
      rw [rep_sign]
    rw [e]
    exact ⟨by rw [tx_len, List.length_replicate]; exact hn, .str _, H, I.tok _, ⟨_, rfl⟩, q⟩
def rStrO (C : Addr) (sp : Sp) (E : XK) : List V → Hp → VK → Prop := fun xs H Q => ∃ p dx fs, xs = [.ref p] ∧ H p = some (.ins C dx fs) ∧ sp [.ref p] H (fun v H' => ∃ z, v = .str z ∧ Q (.str z) H') E
theorem call_strO {CX : CXT} {C f : Addr} {fd : FuncData} {ps : List Str} {sp : Sp} {E : XK} {n : Nat} (F : FnOk X.prog X.w X.K X.mg X.base CX n f fd ps sp) (hs : PySem.W.findIn X.K (.ref C) "__str__" = some (some (.ref f))) (hf : PySem.W.isFn X.K (.ref f) = true)
    (hb : Binds X.K fd ps []) (hx : Passes CX X E) (hr : Room (n + 2) X.A) : CallR X (.type "str") (rStrO C sp E) := by
  intro pins s σ H xs us Q I r ⟨p, dx, fs, e, hp, hsp⟩
  subst e
  obtain ⟨u, rfl, rx⟩ := vals1 r
  cases (show u = Value.ref p from rx)
  obtain ⟨mA, J, _⟩ := ins_get I.hok hp
  obtain ⟨od, J, _⟩ := J.look
  have hr2 : Room n X.A.in1.in1 := (hr.in1).in1
  refine PySem.W.kso_call hr2.units0 I.kIn J hs hf ?_
  have e0 : Env0 X.prog X.w X.K X.mg X.base X.A.in1.in1 X.stack s H := by
    have e := I.env0
    exact ⟨e.frames, e.mod, e.bs, e.bsz, e.funs, e.frf, e.hok, e.bare⟩
  have hl := F.len _ _ _ _ hsp
  have r2 : Vals [V.ref p] [Value.ref p] := .cons rfl .nil
  refine wpAny_call (codeAny_mono (F.run X.A.in1.in1 X.stack s H ⟨[.ref p], []⟩ [.ref p] [.ref p] _ E hr2 e0 (by
    have := hb s [.ref p] I.kIn (by simpa using hl)
    simpa using this) r2 hsp) fun r s' hq => ?_)
  cases r with
  | error e => exact hx pins σ H s e s' I hq
  | ok fl =>
    cases fl with
    | ret w =>
      obtain ⟨v, H', I', rz, z, ez, ex⟩ := I.after hq
      subst ez
      obtain ⟨t, rfl⟩ := rz
      exact ⟨.str z, H', I', ⟨t, rfl⟩, ex⟩
    | next => exact False.elim hq
    | brk => exact False.elim hq
    | cont => exact False.elim hq
theorem ans_yes {K : PySem.W.Frag} {x t c : Value} {P : Heap → Prop} (ty : ∀ (M : Model) (h : Heap), K.In h → P h → PySem.W.Looks M h (typeOf x) t) (e : PySem.W.kitOne K t c = some true) : Answers (fun s => K.In s.heap ∧ P s.heap) x c true := by
  intro dep tk prog w A R st hs
  obtain ⟨hp, gg, dd, tt, oo⟩ := st
  obtain ⟨⟨kin, pp⟩, done⟩ := hs
  have look := ty (model prog w) hp kin pp
  unfold PySem.W.kitOne at e
  unfold Builtin.«isinstance.nested»
  refine wpAny_bind (look.at ?_)
  by_cases same : (t == c) = true
  · rw [if_pos same]
    exact wpAny_bind (wpAny_rule (wpAny_pure (done tt)))
  · rw [if_neg same] at e
    rw [if_neg same]
    obtain ⟨q1, q2, q3⟩ := PySem.W.kit_cls (M := model prog w) kin e
    have both : PySem.W.Looks (model prog w) hp (isInstance x c) true := look.andThen q3
    refine wpAny_bind (q1.at ?_)
    rw [if_pos (by decide)]
    k_delta "plainIsInstance"
    refine wpAny_bind (wpAny_bind (q2.at ?_))
    simp only [Bool.not_true, Bool.false_eq_true, if_false]
    refine wpAny_bind (both.at ?_)
    exact wpAny_pure (wpAny_pure (done tt))
def rIsY (K : PySem.W.Frag) (D a : Addr) : List V → Hp → VK → Prop := fun xs H Q => ∃ C : Addr, xs = [.ref a, .ref C] ∧ PySem.W.kitOne K (.ref D) (.ref C) = some true ∧ Q (.bl true) H
theorem call_isY {a D : Addr} {oe : Obj} {pn : List (Addr × Obj)} {cls : Value} {d : Option Addr} (hz : Zc cls d oe) (hcls : cls = .ref D) : CallR (X.suite a ((a, oe) :: pn)) (.builtin "isinstance") (rIsY X.K D a) := by
  intro pins s σ H xs us Q I r ⟨C, e, hk, q⟩
  subst e
  obtain ⟨u1, u2, rfl, r1, r2⟩ := vals2 r
  cases (show u1 = Value.ref a from r1)
  cases (show u2 = Value.ref C from r2)
  obtain ⟨hget, _⟩ := I.pin (a, oe) (List.mem_append.mpr (.inl List.mem_cons_self))
  refine call_isinstance (S := fun _ R s => (X.K.In s.heap ∧ s.heap.get? a = some oe) ∧ ∀ tk, R (.ok (.ret (.bool true))) { s with toks := tk })
    (fun prog w A R s hs => isinstance_outer (ans_yes (K := X.K) (P := fun h => h.get? a = some oe) (fun M h _ hp => ?_) hk 0 _ prog w A R s hs) (fun z => nomatch z)) ⟨⟨I.kIn, hget⟩, fun tk => ⟨.bl true, H, I.kept (t' := tk) fun _ _ z => z, rfl, q⟩⟩
  have e1 : oe.cls = .ref D := by rw [← hcls]; exact hz.1
  rw [← e1]
  exact (PySem.W.Looks.ld (part := none) hp).andThen .now
end
end Z
set_option maxRecDepth 100000
set_option maxHeartbeats 4000000
namespace Z
open PySem PySem.Spec PyProof.Rows L2
section
variable {X : Cx} {CX : CXT} {C f : Addr} {fd : FuncData} {ps : List Str} {sp : Sp} {E : XK} {n : Nat}
theorem own_call {pins : List (Addr × Obj)} {σ : L2.St} {H : Hp} {s : Shared} {A' : Around} {us : List Value} {vs : List V} {Qv : Value → Shared → Prop} {E' : Value → Shared → Prop} {W : V → Hp → Prop} (F : FnOk X.prog X.w X.K X.mg X.base CX n f fd ps sp) (hb : Binds X.K fd ps []) (I : Inv X pins σ H s)
    (e0 : Env0 X.prog X.w X.K X.mg X.base A' X.stack s H) (hr : Room n A') (rv : Vals vs us) (hsp : sp vs H W E) (hx : ∀ e s', CX X.stack H s E e s' → E' e s')
    (back : ∀ v u H' s', Inv X pins σ H' s' → RelV v u → W v H' → Qv u s') : wpAny (model X.prog X.w) A' (call (.ref f) us) Qv E' s := by
  have hl := F.len _ _ _ _ hsp
  refine wpAny_call (codeAny_mono (F.run A' X.stack s H ⟨us, []⟩ us vs _ E hr e0 (by
    have := hb s us I.kIn (by rw [List.append_nil, ← rv.length]; exact hl)
    simpa using this) rv hsp) fun r s' hq => ?_)
  cases r with
  | error e => exact hx e s' hq
  | ok fl =>
    cases fl with
    | ret w =>
      obtain ⟨v, H', I', rz, q⟩ := I.after hq
      exact back v w H' s' I' rz q
    | next => exact False.elim hq
    | brk => exact False.elim hq
    | cont => exact False.elim hq
theorem env_in1 {pins : List (Addr × Obj)} {σ : L2.St} {H : Hp} {s : Shared} (I : Inv X pins σ H s) : Env0 X.prog X.w X.K X.mg X.base X.A.in1 X.stack s H := by
  have e := I.env0
  exact ⟨e.frames, e.mod, e.bs, e.bsz, e.funs, e.frf, e.hok, e.bare⟩
def rLenO (C : Addr) (sp : Sp) (E : XK) : List V → Hp → VK → Prop := fun xs H Q => ∃ p dx fs, xs = [.ref p] ∧ H p = some (.ins C dx fs) ∧ sp [.ref p] H (fun v H' => ∃ m : Nat, v = .int m ∧ m < 1000000 ∧ Q (.int m) H') E
theorem call_lenO (F : FnOk X.prog X.w X.K X.mg X.base CX n f fd ps sp) (hs : PySem.W.findIn X.K (.ref C) "__len__" = some (some (.ref f))) (hf : PySem.W.isFn X.K (.ref f) = true)
    (hb : Binds X.K fd ps []) (hx : Passes CX X E) (hr : Room (n + 1) X.A) : CallR X (.builtin "len") (rLenO C sp E) := by
  intro pins s σ H xs us Q I r ⟨p, dx, fs, e, hp, hsp⟩
  subst e
  obtain ⟨u, rfl, rx⟩ := vals1 r
  cases (show u = Value.ref p from rx)
  obtain ⟨mA, J, _⟩ := ins_get I.hok hp
  obtain ⟨od, J, _⟩ := J.look
  refine Calls.call_function_entry kind_len plain_len entry_len (args_len1 _) ?_
  unfold Builtin.«len»
  refine wpAny_bind (m := oneArg "len" _) (wpAny_pure ?_)
  refine wpAny_bind (m := callSpecial? (.ref p) (Str.ofString "__len__")) (PySem.W.special_fn I.kIn J hs (beq_iff_eq.mp hf) ?_)
  refine own_call (vs := [.ref p]) F hb I (env_in1 I) hr.in1 (.cons rfl .nil) hsp (fun e s' hq => hx pins σ H s e s' I hq) ?_
  rintro v u H' s' I' rz ⟨m, ez, lt, q⟩
  subst ez
  obtain ⟨t, rfl⟩ := rz
  refine wpAny_bind (wpAny_holding (wpAny_pure ?_))
  refine wpAny_bind (wpAny_letGo ?_)
  show wpAny _ _ (if ((m : Nat) : Int) < 0 then _ else _) _ _ _
  rw [if_neg (by omega)]
  show wpAny _ _ (if ((m : Nat) : Int) ≥ 2 ^ 63 then _ else _) _ _ _
  rw [if_neg (by omega)]
  exact wpAny_bind (wpAny_mkInt (wpAny_pure ⟨_, rfl, .int m, H', I'.tok _, ⟨_, rfl⟩, q⟩))
structure rInO (C : Addr) (sp : Sp) (E : XK) (neg : Bool) (y x : V) (H : Hp) (Q : VK) : Prop where
  h : ∃ p dx fs, x = .ref p ∧ H p = some (.ins C dx fs) ∧ sp [.ref p, y] H (fun v H' => ∃ b : Bool, v = .bl b ∧ Q (.bl (b != neg)) H') E
theorem own_contains {pins : List (Addr × Obj)} {σ : L2.St} {H : Hp} {s : Shared} {p dx : Addr} {fs : List (Str × V)} {y : V} {v : Value} {Qb : Bool → Shared → Prop} {W : V → Hp → Prop} (F : FnOk X.prog X.w X.K X.mg X.base CX n f fd ps sp) (hs : PySem.W.findIn X.K (.ref C) "__contains__" = some (some (.ref f))) (hf : PySem.W.isFn X.K (.ref f) = true)
    (hb : Binds X.K fd ps []) (hx : Passes CX X E) (hr : Room n X.A) (I : Inv X pins σ H s) (ry : RelV y v) (hp : H p = some (.ins C dx fs)) (hsp : sp [.ref p, y] H W E) (back : ∀ z H' s', Inv X pins σ H' s' → W z H' → ∃ b : Bool, z = .bl b ∧ Qb b s') :
    wpAny (model X.prog X.w) X.A (contains (.ref p) v) Qb X.xe s := by
  obtain ⟨mA, J, _⟩ := ins_get I.hok hp
  obtain ⟨od, J, _⟩ := J.look
  have ln : stdlibNamesSay? (.ref p) v = none := by
    unfold stdlibNamesSay?
    rfl
  unfold contains
  refine wpAny_holding ?_
  rw [ln]
  refine wpAny_bind (wpAny_bind (J.type.here ((PySem.W.looks_findIn I.kIn hs).here ?_)))
  refine wpAny_bind ?_
  refine wpAny_mono (Q := fun r s' => ∃ u, r = some u ∧ wpAny (model X.prog X.w) X.A (truthy u) Qb X.xe s') ?_ (fun r s' ⟨u, e, h⟩ => by rw [e]; exact h) fun _ _ e => e
  unfold callSpecialUnlessNone?
  refine wpAny_bind (wpAny_bind (J.type.here ((PySem.W.looks_findIn I.kIn hs).here ?_)))
  refine wpAny_holding (wpAny_bind ((PySem.W.bind_fn I.kIn _ (beq_iff_eq.mp hf)).here ?_))
  show wpAny _ _ (if (Value.ref f == Value.none) = true then _ else _) _ _ _
  rw [if_neg (show ¬ ((Value.ref f == Value.none) = true) from Bool.false_ne_true)]
  refine wpAny_bind (own_call (vs := [.ref p, y]) F hb I I.env0 hr (.cons rfl (.cons ry .nil)) hsp (fun e s' hq => hx pins σ H s e s' I hq) ?_)
  intro z u H' s' I' rz hw
  obtain ⟨b, ez, q⟩ := back z H' s' I' hw
  subst ez
  obtain rfl : u = Value.bool b := rz
  exact wpAny_pure ⟨_, rfl, wpAny_truthy_bool q⟩
theorem op_inO {K : PySem.W.Frag} (F : FnOk X.prog X.w X.K X.mg X.base CX n f fd ps sp) (hs : PySem.W.findIn X.K (.ref C) "__contains__" = some (some (.ref f))) (hf : PySem.W.isFn X.K (.ref f) = true)
    (hb : Binds X.K fd ps []) (hx : Passes CX X E) (hr : Room n X.A) : OpR X (compareOp .In) (rInO C sp E false) := by
  intro pins s σ H y x v u Q I ry rx ⟨p, dx, fs, ex, hp, hsp⟩
  subst ex
  obtain rfl : u = Value.ref p := rx
  show wpAny _ _ (do return Value.bool (← contains (.ref p) v)) _ _ s
  refine wpAny_bind (own_contains (Qb := fun b s' => wpAny (model X.prog X.w) X.A (pure (Value.bool b)) (EP X pins σ Q) X.xe s') F hs hf hb hx hr I ry hp hsp ?_)
  rintro z H' s' I' ⟨b, ez, q⟩
  refine ⟨b, ez, wpAny_pure ⟨.bl b, H', I', rfl, ?_⟩⟩
  simpa using q
theorem op_notInO {K : PySem.W.Frag} (F : FnOk X.prog X.w X.K X.mg X.base CX n f fd ps sp) (hs : PySem.W.findIn X.K (.ref C) "__contains__" = some (some (.ref f))) (hf : PySem.W.isFn X.K (.ref f) = true)
    (hb : Binds X.K fd ps []) (hx : Passes CX X E) (hr : Room n X.A) : OpR X (compareOp .NotIn) (rInO C sp E true) := by
  intro pins s σ H y x v u Q I ry rx ⟨p, dx, fs, ex, hp, hsp⟩
  subst ex
  obtain rfl : u = Value.ref p := rx
  show wpAny _ _ (do return Value.bool (!(← contains (.ref p) v))) _ _ s
  refine wpAny_bind (own_contains (Qb := fun b s' => wpAny (model X.prog X.w) X.A (pure (Value.bool (!b))) (EP X pins σ Q) X.xe s') F hs hf hb hx hr I ry hp hsp ?_)
  rintro z H' s' I' ⟨b, ez, q⟩
  refine ⟨b, ez, wpAny_pure ⟨.bl (!b), H', I', rfl, ?_⟩⟩
  simpa using q
structure rIsiA (K : PySem.W.Frag) (xs : List V) (H : Hp) (Q : VK) : Prop where
  h : rIsi K xs H Q ∨ rIsiT K xs H Q
variable {e : Expr} {es : List Expr} {t : TA} {p pos : Pos}
theorem cb_isiA {K : PySem.W.Frag} (B : Bi X.mg) (ha : PA X (e :: es) t) (hk : X.K = K := by rfl) (hg : Gl X "isinstance" := by rfl) (he : starEach (e :: es) X.env = (false, eval e X.env) :: starEach es X.env := by rfl) (hpl : (backTo pos (starEach es X.env)).any (·.1) = false := by rfl) :
    PE X (.Call (.Name "isinstance" p) (e :: es) [] pos) (tCB (rIsiA K) t) := by
  subst hk
  exact pe_callB (CallR.box (CallR.or call_isi call_isiT) fun _ _ _ q => q.h) hg B.isinstance boot_isi ha (he := he) (hpl := hpl)
structure rEqY (K : PySem.W.Frag) (C : Addr) (sp : Sp) (E : XK) (x y : V) (H : Hp) (Q : VK) : Prop where
  h : ∃ a dx fs t, x = .ref a ∧ H a = some (.ins C dx fs) ∧ TyX K H y t ∧ PySem.W.notFirst K C t = true ∧ sp [x, y] H (fun v H' => ∃ r, v = .bl r ∧ Q (.bl r) H') E
theorem op_eqY {K : PySem.W.Frag} (F : FnOk X.prog X.w X.K X.mg X.base CX n f fd ps sp) (hs : PySem.W.findIn X.K (.ref C) "__eq__" = some (some (.ref f)))
    (hf : PySem.W.isFn X.K (.ref f) = true) (hb : Binds X.K fd ps []) (hx : Passes CX X E) (hr : Room n X.A) (hk : X.K = K := by rfl) : OpR X (compareOp .Eq) (rEqY K C sp E) := by
  subst hk
  intro pins s σ H x y u v Q I rx ry ⟨a, dx, fs, t, ex, ha, ty, nf, hsp⟩
  subst ex
  obtain rfl : u = Value.ref a := rx
  obtain ⟨mA, J, _⟩ := ins_get I.hok ha
  obtain ⟨od, J, _⟩ := J.look
  obtain ⟨m, hF⟩ := I.fr
  obtain ⟨P, Z, p, _⟩ := kit_of I ry ty
  refine PySem.W.cmp_K (op := .Eq) (tb := t) hr.units0 hF I.ok.mod.kin J (Z.ty _ _ I.kIn p) nf hs hf ?_
  refine own_call (vs := [.ref a, y]) F hb I I.env0 hr (.cons rfl (.cons ry .nil)) hsp (fun e s' hq => hx pins σ H s e s' I hq) ?_
  rintro z u' H' s' I' rz ⟨r, ez, q⟩
  subst ez
  obtain rfl : u' = Value.bool r := rz
  exact ⟨.bl r, H', I', rfl, q⟩
end
end Z
set_option maxRecDepth 100000
set_option maxHeartbeats 4000000
set_option pp.maxSteps 500
namespace Z
open PySem PySem.Spec PyProof.Rows L2
theorem boot_Overflow : bootBuiltins "OverflowError" = some (.type "OverflowError") := by decide +kernel
def rIsB (K : PySem.W.Frag) (D a : Addr) : List V → Hp → VK → Prop := fun xs H Q => ∃ n : String, xs = [.ref a, .ty n] ∧ PySem.W.kitOne K (.ref D) (.type n) = some true ∧ Q (.bl true) H
theorem call_isB {X : Cx} {a D : Addr} {oe : Obj} {pn : List (Addr × Obj)} {cls : Value} {d : Option Addr} (hz : Zc cls d oe) (hcls : cls = .ref D) : CallR (X.suite a ((a, oe) :: pn)) (.builtin "isinstance") (rIsB X.K D a) := by
  intro pins s σ H xs us Q I r ⟨n, e, hk, q⟩
  subst e
  obtain ⟨u1, u2, rfl, r1, r2⟩ := vals2 r
  cases (show u1 = Value.ref a from r1)
  cases (show u2 = Value.type n from r2)
  obtain ⟨hget, _⟩ := I.pin (a, oe) (List.mem_append.mpr (.inl List.mem_cons_self))
  refine call_isinstance (S := fun _ R s => (X.K.In s.heap ∧ s.heap.get? a = some oe) ∧ ∀ tk, R (.ok (.ret (.bool true))) { s with toks := tk })
    (fun prog w A R s hs => isinstance_outer (ans_yes (K := X.K) (P := fun h => h.get? a = some oe) (fun M h _ hp => ?_) hk 0 _ prog w A R s hs) (fun z => nomatch z)) ⟨⟨I.kIn, hget⟩, fun tk => ⟨.bl true, H, I.kept (t' := tk) fun _ _ z => z, rfl, q⟩⟩
  have e1 : oe.cls = .ref D := by rw [← hcls]; exact hz.1
  rw [← e1]
  exact (PySem.W.Looks.ld (part := none) hp).andThen .now
end Z
set_option maxRecDepth 100000
set_option maxHeartbeats 4000000
set_option pp.maxSteps 500
namespace L2
open PySem PySem.Spec PyProof.Rows StX
def tCallOS (C : Addr) (sp : Sp) (E : St → XK) (tf : TE) (t : TA) : TE := fun σ H Q => tf σ H fun y H1 => ∃ a, y = V.ref a ∧ t σ H1 fun vs H2 => (∃ dx fs, H2 a = some (.ins C dx fs)) ∧ sp (V.ref a :: vs) H2 Q (E σ)
section
variable {X : Cx} {CX : CXT} {k : Nat} {C : Addr} {sp : Sp} {E : St → XK} {tf : TE} {t : TA} {fe e : Expr} {es : List Expr} {pos : Pos}
theorem run_callOS {pins : List (Addr × Obj)} {σ : L2.St} {H : Hp} {s : Shared} {Q : VK} {a g : Addr} {us : List Value} {vs : List V} (c : CallO X.K C g) (F : FnR X.prog X.w X.K X.mg X.base CX k g sp) (hr : Room k X.A) (hx : PassesAt CX X σ (E σ)) (I : Inv X pins σ H s) (hi : InsC X H a C) (r : Vals vs us)
    (h : sp (V.ref a :: vs) H Q (E σ)) : wpAny (model X.prog X.w) X.A (call (.ref a) us) (EP X pins σ Q) X.xe s := by
  obtain ⟨ox, od, J, hd⟩ := insC_at I hi
  refine wpAny_call (PySem.W.kco_code I.kIn J hd c.at_ c.fn c.fi ?_)
  refine codeAny_mono (F X.A X.stack s H (.ref a :: us) (V.ref a :: vs) Q (E σ) hr I.env0 (.cons rfl r) h) fun r s' hq => ?_
  cases r with
  | error e => exact hx pins H s e s' I hq
  | ok fl =>
    cases fl with
    | ret u => exact I.after hq
    | next => exact False.elim hq
    | brk => exact False.elim hq
    | cont => exact False.elim hq
theorem pe_callOS {g : Addr} (hf : PE X fe tf) (c : CallO X.K C g) (F : FnR X.prog X.w X.K X.mg X.base CX k g sp) (hr : Room k X.A) (hx : ∀ σ, PassesAt CX X σ (E σ)) (ha : PA X (e :: es) t)
    (ht : eval (.Call fe (e :: es) [] pos) X.env = (do callWith pos (← eval fe X.env) [] (backTo pos (starEach (e :: es) X.env)) (backToKw pos (keywordEach [] X.env))) := by rfl)
    (he : starEach (e :: es) X.env = (false, eval e X.env) :: starEach es X.env := by rfl) (hpl : (backTo pos (starEach es X.env)).any (·.1) = false := by rfl) : PE X (.Call fe (e :: es) [] pos) (tCallOS C sp E tf t) := by
  refine ⟨fun pins s σ H Q I h => ?_⟩
  refine Call_ (thn (hf.run pins s σ H _ I h) fun u s1 ⟨y, H1, I1, ry, a, ey, q⟩ => ?_) ht
  subst ey
  obtain rfl : u = Value.ref a := ry
  refine callO_with (thn (ha.run pos pins s1 σ H1 _ I1 q) fun us s2 ⟨vs, H2, I2, r, hi, q2⟩ => ?_) he hpl
  obtain ⟨ox, od, J, hd⟩ := insC_at I2 (.inr hi : InsC X H2 a C)
  exact ⟨⟨C, ox, od, J, hd⟩, run_callOS c F hr (hx σ) I2 (.inr hi) r q2⟩
end
end L2
namespace Z
open PySem PySem.Spec PyProof.Rows L2
structure rIsQ (K : PySem.W.Frag) (D a : Addr) (d : Option Addr) (xs : List V) (H : Hp) (Q : VK) : Prop where
  h : ∃ (C dd : Addr) (fs : List (Str × V)) (b : Bool), xs = [.ref a, .ref C] ∧ PySem.W.kitOne K (.ref D) (.ref C) = some b ∧ d = some dd ∧ H dd = some (.xd fs) ∧ Q (.bl b) H
theorem call_isQ {X : Cx} {a D : Addr} {oe : Obj} {pn : List (Addr × Obj)} {cls : Value} {d : Option Addr} (T : XfC X.K D) (hxc : PySem.W.findIn X.K (.ref D) "__class__" = some (some (.builtin "object.__class__"))) (hxm : PySem.W.mroIn X.K D (.type "object") = some true) (hxi : (PySem.W.clsIn X.K D).isSome = true)
    (hn : PySem.W.specialIn X.K (.builtin "object.__class__") "__get__" = some (some (.builtin "getset_descriptor.__get__"))) (htk : PySem.W.takesIn X.K (.builtin "object.__class__") = some true)
    (hz : Zc cls d oe) (hf : ∃ vs, oe.data = .fields vs) (hcls : cls = .ref D) : CallR (X.suite a ((a, oe) :: pn)) (.builtin "isinstance") (rIsQ X.K D a d) := by
  intro pins s σ H xs us Q I r h
  obtain ⟨C, dd, fs, b, rfl, hk, ed, ea, q⟩ := h.h
  obtain ⟨u1, u2, rfl, r1, r2⟩ := vals2 r
  cases (show u1 = Value.ref a from r1)
  cases (show u2 = Value.ref C from r2)
  subst ed
  subst hcls
  obtain ⟨ha, _⟩ := I.pin (a, oe) (List.mem_append.mpr (.inl List.mem_cons_self))
  obtain ⟨vs, hd⟩ := hf
  have hx : ObjOk X.prog X.w H s.heap dd (.xd fs) := I.hok dd _ ea
  obtain ⟨mA, hns, hr⟩ := hx
  obtain ⟨od, ho, hl⟩ := lookIn_ns hns
  have J : PySem.W.InstAt s.heap a oe D (some od) := ⟨ha, hz.1, by unfold PySem.W.notCls; rw [hd] <;> rfl, by rw [hz.2]; exact ho⟩
  exact PySem.W.kia_one (PySem.W.kitx_exc hxi T.ga T.gg T.exC hxc hn htk hxm) I.kIn J hk (fun z => nomatch z) fun tk => ⟨.bl b, H, I.kept (t' := tk) fun _ _ z => z, rfl, q⟩
theorem boot_KeyError : bootBuiltins "KeyError" = some (.type "KeyError") := by decide +kernel
end Z
set_option maxRecDepth 100000
set_option maxHeartbeats 4000000
namespace Z
open PySem PySem.Spec PyProof.Rows L2
section
variable {X : Cx}
def tFmtO (C : Addr) (sp : Sp) (E : XK) (te : TE) : TE := fun σ H Q => te σ H fun x H1 => ∃ p dx fs, x = .ref p ∧ H1 p = some (.ins C dx fs) ∧ sp [.ref p] H1 (fun v H2 => ∃ z, v = .str z ∧ Q (.str z) H2) E
theorem pe_fmtO {CX : CXT} {C f : Addr} {fd : FuncData} {ps : List Str} {sp : Sp} {E : XK} {n : Nat} {e : Expr} {te : TE} {pos : Pos} (F : FnOk X.prog X.w X.K X.mg X.base CX n f fd ps sp)
    (hs : PySem.W.findIn X.K (.ref C) "__str__" = some (some (.ref f))) (hf : PySem.W.isFn X.K (.ref f) = true) (hfm : PySem.W.findIn X.K (.ref C) "__format__" = some (some (.builtin "object.__format__"))) (hm : PySem.W.mroIn X.K C (.type "object") = some true)
    (hb : Binds X.K fd ps []) (hx : Passes CX X E) (hr : Room (n + 1) X.A) (he : PE X e te) : PE X (.FormattedValue e (-1) none pos) (tFmtO C sp E te) := by
  refine ⟨fun pins s σ H Q I h => ?_⟩
  refine wpAny_FormattedValue_plain (thn (he.run pins s σ H _ I h) fun u s1 ⟨x, H1, I1, r1, p, dx, fs, ex, hp, hsp⟩ => ?_)
  subst ex
  obtain rfl : u = Value.ref p := r1
  obtain ⟨mA, J, _⟩ := ins_get I1.hok hp
  obtain ⟨od, J, _⟩ := J.look
  have r2 : Room n X.A.in1 := hr.in1
  have I2 := I1.tok (s1.toks + 1)
  have hl := F.len _ _ _ _ hsp
  have rv : Vals [V.ref p] [Value.ref p] := .cons rfl .nil
  refine PySem.W.kfo_fieldS r2.units0 I2.kIn J hfm hm hs hf ?_
  refine wpAny_call (codeAny_mono (F.run X.A.in1 X.stack { s1 with toks := s1.toks + 1 } H1 ⟨[.ref p], []⟩ [.ref p] [.ref p] _ E r2 I2.env0.in1 (by
    have := hb { s1 with toks := s1.toks + 1 } [.ref p] I2.kIn (by simpa using hl)
    simpa using this) rv hsp) fun r s' hq => ?_)
  cases r with
  | error er => exact (hx pins σ H1 _ er s' I2 hq)
  | ok fl =>
    cases fl with
    | ret w =>
      obtain ⟨v, H', I', rz, z, ez, ex⟩ := I2.after hq
      subst ez
      obtain ⟨t, rfl⟩ := rz
      exact ⟨.str z, H', I', ⟨t, rfl⟩, ex⟩
    | next => exact False.elim hq
    | brk => exact False.elim hq
    | cont => exact False.elim hq
end
end Z
set_option maxRecDepth 100000
set_option maxHeartbeats 4000000
namespace Z
open PySem PySem.Spec PyProof.Rows L2 LamX
def OnlyT (P : Addr) (H : Hp) : Prop := H P = some (.tbl #[]) ∧ ∀ b, b ≠ P → H b = none ∨ ∃ o xs, H b = some (.frz o (.lst xs))
section
variable {prog : Program} {w : World} {K : PySem.W.Frag} {mg mb : Str → Option Value} {CX : CXT}
theorem law_GT {k : Nat} {fa a c P : Addr} {fd : FuncData} {x : Str} {sp : Sp} {s1 : Shared} {vs : List Value} {ns : List Int}
    (hin : K.In s1.heap) (glob : s1.heap.Ns mainGlobals mg) (blt : s1.heap.Ns builtinsNs mb) (bb : ∀ x : Str, x ≠ "__name__" → mb x = bootBuiltins x) (lim : s1.heap.NoLimit) (bare : s1.gens = #[])
    (tab : s1.heap.get? P = some { cls := .none, data := .fields #[] }) (noK : K.lookup P = none) (code : PySem.W.CodeHd s1.heap c P)
    (bmod : ∃ (bm : Addr) (ob : Obj), mg "__builtins__" = some (.ref bm) ∧ bm ≠ builtinsNs ∧ s1.heap.get? bm = some ob ∧ ob.cls = .type "module" ∧ ob.dict = some builtinsNs ∧ ob.data = .plain)
    (scr : s1.heap.get? a = some { cls := .type "list", data := .seq vs.toArray }) (its : IntsAre vs ns) (few : ns.length ≤ sizeLine) (room : Room k callerA)
    (F : ∀ base : Heap, K.In base → base.Ns mainGlobals mg → TabB base mg c P → FnG prog w K mg base CX k fa fd [x] sp) (bd : ∀ (s : Shared) (u : Value), BindsTo s fd ⟨[u], []⟩ [(x, u)])
    (wish : ∀ H : Hp, OnlyT P H → SqL K H a (ns.map V.int) → sp [.ref a] H (fun v _ => v = .bl true) fun _ _ _ => False)
    (none_out : ∀ H e s', CX [] H s1 (fun _ _ _ => False) e s' → False) :
    codeAny (model prog w) callerA (.call (.ref fa) ⟨[.ref a], []⟩) (fun r s' => r = .ok (.ret (.bool true)) ∧ OldK s1.heap s'.heap ∧ s'.os = s1.os ∧ AllBare s'.gens) s1 := by
  have rv := vals_ints its
  have aP : a ≠ P := fun z => by
    rw [z, tab] at scr
    have d : Data.fields #[] = Data.seq vs.toArray _ := congrArg Obj.data (Option.some.inj scr)
    cases d
  have go : ∀ H : Hp, OnlyT P H → SqL K H a (ns.map V.int) → HOk prog w H s1.heap → (∀ b u, H b = some u → b = P ∨ (b = a ∧ K.lookup a = none)) →
      codeAny (model prog w) callerA (.call (.ref fa) ⟨[.ref a], []⟩) (fun r s' => r = .ok (.ret (.bool true)) ∧ OldK s1.heap s'.heap ∧ s'.os = s1.os ∧ AllBare s'.gens) s1 := by
    intro H only sq ok at_
    have free : ∀ {b : Addr} {o : Obj}, s1.heap.get? b = some o → (∀ us n, o.data ≠ .seq us n) → o.data ≠ .fields #[] → H b = none := fun {b o} e n1 n2 => by
      cases q : H b with
      | none => rfl
      | some u =>
        rcases at_ b u q with rfl | ⟨rfl, _⟩
        · rw [tab] at e
          cases e
          exact (n2 rfl).elim
        · rw [scr] at e
          cases e
          exact (n1 _ _ rfl).elim
    have ns_ : ∀ {b : Addr} {m : Str → Option Value}, s1.heap.Ns b m → (hidT s1.heap H).Ns b m := fun {b m} ⟨o, es, ep, e, d, r⟩ =>
      ⟨o, es, ep, hidT_get e (free e (fun us n z => by rw [d] at z; cases z) fun z => by rw [d] at z; cases z), d, r⟩
    have kin : K.In (hidT s1.heap H) := fun b o e => hidT_get (hin b o e) (by
      cases q : H b with
      | none => rfl
      | some u =>
        rcases at_ b u q with rfl | ⟨rfl, z⟩
        · rw [noK] at e
          cases e
        · rw [z] at e
          cases e)
    have TB : TabB (hidT s1.heap H) mg c P := by
      refine ⟨?_, ?_, fun z => ?_⟩
      · obtain ⟨o, us, file, tf, flags, tg, inF, text, tt, e1, r1, r2, r3, r⟩ := code
        refine ⟨o, us, file, tf, flags, tg, inF, text, tt, hidT_get e1 (free e1 (fun vs n z => ?_) fun z => ?_), r1, r2, r3, r⟩
        · rw [r2] at z
          cases z
        · rw [r2] at z
          cases z
          simp at r3
      · obtain ⟨bm, ob, b1, b2, b3, b4, b5, b6⟩ := bmod
        refine ⟨bm, ob, b1, b2, fun q => ?_, fun q => ?_, hidT_get b3 (free b3 (fun vs n z => ?_) fun z => ?_), b4, b5, b6⟩
        · obtain ⟨o, es, ep, e, d, _⟩ := glob
          rw [q, e] at b3
          cases b3
          rw [d] at b6
          cases b6
        · rw [q, tab] at b3
          cases b3
          cases b6
        · rw [b6] at z
          cases z
        · rw [b6] at z
          cases z
      · obtain ⟨o, es, ep, e, d, _⟩ := glob
        rw [z, tab] at e
        cases e
        cases d
    have e0 : Env0 prog w K mg (hidT s1.heap H) callerA [] s1 H :=
      ⟨rfl, ⟨kin, ns_ glob, ⟨mb, ns_ blt, bb⟩, lim.imp fun _ q => ⟨ns_ q.1, q.2⟩⟩, fun b o e => of_hidT e, Nat.le_of_eq (hidT_size _ _), trivial, fun b hb => (List.not_mem_nil hb).elim, ok, .of_eq bare⟩
    refine codeAny_mono ((F _ kin (ns_ glob) TB).run callerA [] s1 H ⟨[.ref a], []⟩ [.ref a] [.ref a] _ _ room rfl e0 (bd s1 (.ref a)) (.cons rfl .nil) (wish H only sq)) fun r s' out => ?_
    match r, out with
    | .error e, out => exact (none_out H e s' out).elim
    | .ok .next, out => exact out.elim
    | .ok .brk, out => exact out.elim
    | .ok .cont, out => exact out.elim
    | .ok (.ret u), ⟨v, H', os, gens, un, ok', r', q⟩ =>
      have q' : v = V.bl true := q
      subst q'
      obtain rfl : u = Value.bool true := r'
      have key : ∀ b o, b ≠ P → s1.heap.get? b = some o → s'.heap.get? b = some o := fun b o nb e => by
        cases hb : H b with
        | none => exact un.keep b o e hb List.not_mem_nil List.not_mem_nil
        | some u =>
          rcases only.2 b nb with z | ⟨ob, xs, z⟩
          · rw [z] at hb
            cases hb
          · have z2 := (ok' b _ (un.frzs b ob _ z)).1
            rw [(ok b _ z).1] at e
            cases e
            exact z2
      obtain ⟨more, grown⟩ : ∃ more : Array Value, s'.heap.get? P = some { cls := .none, data := .fields more } := by
        obtain ⟨more, z⟩ := un.tbls P #[] only.1
        exact ⟨_, ok' P _ z⟩
      refine ⟨rfl, ⟨fun b o e => ?_, fun b o e => ?_⟩, os, gens⟩
      · by_cases hb : b = P
        · subst hb
          rw [tab] at e
          cases e
          exact .inr (.inl ⟨(code.tab tab).isCodeTable, rfl, #[], more, rfl, by rw [Array.empty_append]; exact grown⟩)
        · exact .inl (key b o hb e)
      · by_cases hb : b = P
        · subst hb
          exact ⟨_, grown⟩
        · exact ⟨o, key b o hb e⟩
  cases hk : K.lookup a with
  | some o =>
    have e := hin a o hk
    rw [scr] at e
    cases e
    have at_P : ∀ b u, (if b = P then some (HO.tbl #[]) else none) = some u → b = P ∧ u = HO.tbl #[] := fun b u z => by
      split at z
      · exact ⟨by assumption, (Option.some.inj z).symm⟩
      · cases z
    refine go (fun b => if b = P then some (.tbl #[]) else none) ⟨if_pos rfl, fun b hb => .inl (if_neg hb)⟩ (.inr ⟨_, vs.toArray, _, hk, rfl, rfl, rfl, by rw [List.size_toArray, its.length]; exact few, by simpa using rv⟩) (fun b u z => ?_) fun b u z => .inl (at_P b u z).1
    obtain ⟨rfl, rfl⟩ := at_P b u z
    exact tab
  | none =>
    have at_a : ∀ b u, (if b = P then some (HO.tbl #[]) else if b = a then some (HO.frz { cls := .type "list", data := .seq vs.toArray } (.lst (ns.map V.int))) else none) = some u → (b = P ∧ u = HO.tbl #[]) ∨ (b = a ∧ u = HO.frz { cls := .type "list", data := .seq vs.toArray } (.lst (ns.map V.int))) := fun b u z => by
      split at z
      · exact .inl ⟨by assumption, (Option.some.inj z).symm⟩
      · split at z
        · exact .inr ⟨by assumption, (Option.some.inj z).symm⟩
        · cases z
    refine go (fun b => if b = P then some (.tbl #[]) else if b = a then some (.frz { cls := .type "list", data := .seq vs.toArray } (.lst (ns.map V.int))) else none) ⟨if_pos rfl, fun b hb => ?_⟩ (.inl (.inr ⟨_, (if_neg aP).trans (if_pos rfl)⟩)) (fun b u z => ?_) fun b u z => (at_a b u z).imp (fun q => q.1) fun q => ⟨q.1, hk⟩
    · by_cases hb2 : b = a
      · exact .inr ⟨_, _, (if_neg hb).trans (if_pos hb2)⟩
      · exact .inl ((if_neg hb).trans (if_neg hb2))
    · rcases at_a b u z with ⟨rfl, rfl⟩ | ⟨rfl, rfl⟩
      · exact tab
      · exact ⟨scr, by rw [List.length_map]; exact few, vs, _, rv, scr⟩
theorem okGC {x qual : Str} {st : Stmt} {f : Addr} {fd : FuncData} {N ps : List Str} {k : Nat} {sp : Sp} {base : Heap} (F : Fun K x qual st f fd) (S : FnScope N ps (defScope st)) (len : ∀ vs H Q E, sp vs H Q E → vs.length = ps.length)
    (hbody : ∀ (A : Around) (outer : List Env) (s : Shared) (H : Hp) (vs : List V) (Q : VK) (E : XK), Room k (A.deeper (envOfC qual (defScope st) s.heap.objs.size f fd.code)) → A.guards = some [] → sp vs H Q E →
      ∃ t, PSs (cxOf CX prog w K mg base N qual (defScope st) f fd.code A outer s H E) (defBody st) t ∧ t { nx := fun _ H' => Q .non H', rt := Q } (start N vs) H) : FnG prog w K mg base CX (k + 1) f fd ps sp := by
  obtain ⟨oc, od, kV, doc, pm, an, cdv, ct, osl, rfl, lk, code⟩ := F.ex
  have F2 : Fun K x qual st f (PySem.W.fnOf x qual (defArgs st) (defBody st) (defScope st) .none kV doc pm an cdv ct) := F
  refine ⟨len, fun A outer s H args us vs Q E room gu e0 bd rv wish => ?_⟩
  have hin : K.In s.heap := e0.mod.kin.keeps fun b o e => (e0.bs b o e).1
  have big : s.heap.NoLimit := e0.mod.nolimit.keeps fun b o e => (e0.bs b o e).1
  have count := len vs H Q E wish
  refine codeAny_call_function room.depth (hin _ _ lk) rfl S.co S.gen rfl (PySem.W.codeRec_of hin code) (bd _ _ _ _ ?_)
  refine wpAny_newFunctionEnv_cells S.kind (fun y hy => ?_) fun env he s1 y => ?_
  · exact (S.par y.1 (List.of_mem_zip hy).1).imp id fun q => ⟨q, PySem.W.cellsFrom_some _ _ _ (.inl q)⟩
  · subst he
    refine ⟨big.keeps y.toInCall.keep, codeAny_func ?_⟩
    obtain ⟨t, der, rd⟩ := hbody A outer s H vs Q E (room.deeper _) gu wish
    refine wpAny_mono (der.run [] s1 (start N vs) H _ (inv_start S room.hd e0 count rv y) rd) (fun fl s' out => ?_) fun _ _ out => out
    match fl, out with
    | .ret u, ⟨v, _, H', J, r, q⟩ => exact ⟨v, H', J.os, J.bare, J.base, J.hok, r, q⟩
    | .next, ⟨_, H', J, q⟩ => exact ⟨.non, H', J.os, J.bare, J.base, J.hok, rfl, q⟩
    | .brk, ⟨_, _, _, q⟩ => exact q.elim
    | .cont, ⟨_, _, _, q⟩ => exact q.elim
end
theorem walkGT {l : PySem.W.OpenLaw} {n k : Nat} {q : Program} {loose : List Str} {XP : (Str → Option Value) → Heap → Prop} {YP : World → Heap → Prop} {d : DefRec} {K : Params → PySem.W.Frag} {CX : World → CXT} {sp : World → Addr → Addr → Sp} {x : Str}
    (hn : l.most = some n) (hn2 : n ≤ sizeLine) (hdf : d.params.defaults = []) (hr : Room k callerA) (hrec : ((recsOf q).any fun e => e.name == d.name) = true)
    (hY : ∀ (w : World) (h : Heap), YP w h → (K w.params).In h)
    (F : ∀ (w : World) (mg : Str → Option Value) (fa : Addr) (h : Heap), (K w.params).In h → h.Ns mainGlobals mg → mg d.name = some (.ref fa) → OwnTab (K w.params) fa h →
      ∃ (fd : FuncData) (c P : Addr), (∀ (s : Shared) (u : Value), BindsTo s fd ⟨[u], []⟩ [(x, u)]) ∧ h.get? P = some { cls := .none, data := .fields #[] } ∧ (K w.params).lookup P = none ∧ PySem.W.CodeHd h c P ∧
        ∀ base : Heap, (K w.params).In base → base.Ns mainGlobals mg → TabB base mg c P → FnG l.prog w (K w.params) mg base (CX w) k fa fd [x] (sp w c P))
    (hsp : ∀ (w : World) (H : Hp) (a c P : Addr) (ns : List Int), ns.length ≤ n → (∀ z ∈ ns, Builtin.Int.intBits z ≤ 1048576) → OnlyT P H → SqL (K w.params) H a (ns.map V.int) → sp w c P [.ref a] H (fun v _ => v = .bl true) fun _ _ _ => False)
    (hCX : ∀ (w : World) (H : Hp) (s : Shared) (e : Value) (s' : Shared), CX w [] H s (fun _ _ _ => False) e s' → False) :
    PySem.W.WalkO q loose XP YP l.row.toRowW d [] (fun f vs => PySem.call f vs) := by
  refine Att.attach_callB hn hdf fun w s₀ s₁ mg mb fa o pm cd doc a vs ns G Y ho hd hcd hmg hobj hints hlen hbits hg => ?_
  have kin := hY w _ Y
  have own : OwnTab (K w.params) fa s₁.heap := by
    intro c P o1 fd1 e dd vs1 sl k1 k2 k3 k4 k5
    obtain ⟨dL, hm, same⟩ := List.any_eq_true.mp hrec
    have same2 : dL.name = d.name := beq_iff_eq.mp same
    obtain ⟨a2, o2, fd2, c2, P2, h1, h2, h3, h4, h5, ⟨⟨oc, vc, e1, _, e3, e4⟩, hP⟩⟩ := G.T.tab dL hm
    rw [same2, hmg] at h1
    cases h1
    have g1 := kin _ _ k1
    rw [g1] at h2
    cases h2
    rw [k2] at h3
    cases h3
    rw [k3] at h4
    cases h4
    have g2 := kin _ _ k4
    rw [g2] at e1
    cases e1
    cases e3
    rw [k5] at e4
    cases e4
    exact hP
  obtain ⟨fd, c, P, hb, tab, noK, code, hF⟩ := F w mg fa _ kin G.T.g hmg own
  exact law_GT kin G.T.g G.T.b G.T.builtins G.T.nolimit hg tab noK code G.T.bmain hobj hints (Nat.le_trans hlen hn2) hr hF hb (fun H hO hS => hsp w H a c P ns hlen hbits hO hS) fun H e s' => hCX w H s₁ e s'
end Z
set_option maxRecDepth 100000
set_option maxHeartbeats 4000000
namespace Z
open PySem PySem.Spec PyProof.Rows L2 PySem.Froz
def SetS (P : Program) (w : World) (h : Heap) (a : Addr) (l : List PySem.Str) : Prop :=
  ∃ D : SD, h.get? a = some (sObj "set" D) ∧ TxOk P w D l ∧ l.Nodup ∧ l.length < scanBound ∧ Ris D.2.2.place.toList ∧ (w.params.followText "set-order" = true ∨ D.2.2.led = true)
section
variable {P : Program} {w : World} {A : Around} {E : Value → Shared → Prop} {s : Shared} {a : Addr} {l : List PySem.Str}
theorem SetS.at {h h' : Heap} (R : SetS P w h a l) (k : ∀ o, h.get? a = some o → h'.get? a = some o) : SetS P w h' a l := by
  obtain ⟨D, e, rest⟩ := R
  exact ⟨D, k _ e, rest⟩
theorem tail_ris {ep : Nat} {es1 : Array (Int × Value)} {t2 : SetTable} {wd : Bool} (r : Ris t2.place.toList) : Ris (tailTx ep es1 t2 wd).2.2.place.toList := by
  unfold tailTx
  by_cases c : (!wd && t2.tooFull) = true
  · rw [if_pos c]
    exact relayAll_ris _ _ _
  · rw [if_neg c]
    exact r
theorem tail_led {ep : Nat} {es1 : Array (Int × Value)} {t2 : SetTable} {wd : Bool} : (tailTx ep es1 t2 wd).2.2.led = t2.led := by
  unfold tailTx
  by_cases c : (!wd && t2.tooFull) = true
  · rw [if_pos c]
    exact relayAll_led _ _ _
  · rw [if_neg c]
theorem add_ris {D : SD} {hh : Int} {v : Value} (r : Ris D.2.2.place.toList) : Ris (addTx hh v D).2.2.place.toList := by
  have r2 := layNew_ris D.2.2 D.1 hh v r
  refine tail_ris ?_
  by_cases c : (layNew D.2.2 D.1 hh v).2.1.plain = true
  · rw [if_pos c]
    exact r2
  · rw [if_neg c]
    exact r2
theorem add_led {D : SD} {hh : Int} {v : Value} : (addTx hh v D).2.2.led = D.2.2.led := by
  have r2 := layNew_led D.2.2 D.1 hh v
  unfold addTx
  rw [tail_led]
  by_cases c : (layNew D.2.2 D.1 hh v).2.1.plain = true
  · rw [if_pos c]
    exact r2
  · rw [if_neg c]
    exact r2
def more (l : List PySem.Str) (k : PySem.Str) : List PySem.Str := if k ∈ l then l else k :: l
theorem addS_hashed {k : PySem.Str} {u : Tok} {Q : Bool → Shared → Prop} (R : SetS P w s.heap a l) (room : l.length + 1 < scanBound)
    (hQ : ∀ h' b, Heap.SameBut a s.heap h' → SetS P w h' a (more l k) → Q b { s with heap := h' }) : wpAny (model P w) A (setAddHashed a (.str k u) (hashStr w k)) Q E s := by
  obtain ⟨D, ho, F, nd, bl, ri, le⟩ := R
  by_cases hk : k ∈ l
  · have same : SetS P w s.heap a (more l k) := by
      unfold more
      rw [if_pos hk]
      exact ⟨D, ho, F, nd, bl, ri, le⟩
    obtain ⟨es, ep, t⟩ := D
    have dat : (sObj "set" (es, ep, t)).data = .set es ep t := rfl
    have fit : t.fits es.size = true := F.fit
    have els : ElemsOf (strKind P w) es.toList := F.el
    have siz : es.size < scanBound := by
      have e : es.size = l.length := F.sz
      omega
    have key : (strKind P w).is k (.str k u) = true := is_str k u
    unfold setAddHashed setAddHashedIn
    refine wpAny_holding (wpAny_bind (wpAny_setState_of ho dat fit ?_))
    dsimp only
    rw [byScan_of rfl siz els]
    simp only [↓reduceIte]
    unfold setAddByScan
    refine wpAny_bind (wpAny_bind (wpAny_rule (wpAny_bind (wpAny_setScan_of (knd := strKind P w) (k := k) key ho dat fit els ?_))))
    cases found : List.findIdx? (fun e => (strKind P w).is k e.2) es.toList with
    | some j =>
      dsimp only
      exact wpAny_pure (wpAny_pure (hQ s.heap _ (Heap.SameBut.refl a s.heap) same))
    | none =>
      obtain ⟨e, he, z⟩ := (F.mem k).mp hk
      have c := List.findIdx?_eq_none_iff.mp found e he
      rw [z] at c
      cases c
  · refine add_x ho F hk room (hQ _ _ (Heap.SameBut.update s.heap a _) ?_)
    have e : more l k = k :: l := if_neg hk
    rw [e]
    refine ⟨_, get_upd _ ho rfl, add_ok u F, List.nodup_cons.mpr ⟨hk, nd⟩, room, add_ris ri, ?_⟩
    rw [add_led]
    exact le
theorem SetS.typ (R : SetS P w s.heap a l) : s.TypeIs (.ref a) "set" := by
  obtain ⟨D, ho, _⟩ := R
  exact ⟨_, ho, rfl⟩
theorem setS_add {k : PySem.Str} {u : Tok} {Q : Value → Shared → Prop} (R : SetS P w s.heap a l) (room : l.length + 1 < scanBound)
    (hQ : ∀ h', Heap.SameBut a s.heap h' → SetS P w h' a (more l k) → Q .none { s with heap := h', toks := s.toks + 1 }) : wpAny (model P w) A (call (.builtin "set.add") [.ref a, .str k u]) Q E s := by
  refine wpAny_call_entry F.slot_set_add R.typ F.entry_set_add ?_ (F.args_set_add_2 _ _)
  unfold Builtin.«set.add» Builtin.Frozenset.oneOther
  simp only [List.isEmpty_nil, bind_assoc]
  unfold Builtin.Frozenset.addrOf setAdd
  refine wpAny_bind (wpAny_pure ?_)
  try dsimp only
  refine wpAny_bind (wpAny_pure ?_)
  try dsimp only
  refine wpAny_bind (wpAny_holding (wpAny_bind ((strKind P w).pyHash (is_str k u) ?_)))
  refine addS_hashed (s := { s with toks := s.toks + 1 }) R room fun h' b sb r => ?_
  show wpAny _ _ (ret Value.none) _ _ _
  exact wpAny_pure ⟨_, rfl, hQ h' sb r⟩
theorem setS_fresh {h : Heap} (w : World) : SetS P w (h.push { cls := .type "set", dict := none, data := .set #[] 0 (.fresh 0 0 (!w.params.followText "set-order")) }) h.objs.size [] :=
  ⟨(#[], 0, .fresh 0 0 (!w.params.followText "set-order")), Heap.get?_push_size _ rfl, TxOk.nil (by rfl), List.nodup_nil, by decide, List.Pairwise.nil, by
    show _ ∨ (!w.params.followText "set-order") = true
    cases w.params.followText "set-order" with
    | false => exact .inr rfl
    | true => exact .inl rfl⟩
end
def SetSO (P : Program) (w : World) (a : Addr) (l : List PySem.Str) : HO := .ext fun h => SetS P w h a l
section
variable {X : Cx} {pins : List (Addr × Obj)} {σ : L2.St} {H : Hp} {s : Shared} {E : Value → Shared → Prop} {D : Addr} {l : List PySem.Str}
theorem setSO_new {P : Program} {w : World} {H : Hp} {h : Heap} {a : Addr} (R : SetS P w h a l) : ObjOk P w H h a (SetSO P w a l) :=
  ⟨R, by obtain ⟨D, e, _⟩ := R; exact ⟨_, e⟩, fun h1 h2 r k => SetS.at r k⟩
theorem setSO_get (I : Inv X pins σ H s) (h : H D = some (SetSO X.prog X.w D l)) : SetS X.prog X.w s.heap D l := (I.hok D _ h).1
theorem addS_ok {k : PySem.Str} {u : Tok} {Q : Value → Shared → Prop} (I : Inv X pins σ H s) (hD : H D = some (SetSO X.prog X.w D l)) (room : l.length + 1 < scanBound)
    (h : ∀ s', Inv X pins σ (upd H D (SetSO X.prog X.w D (more l k))) s' → Q .none s') : wpAny (model X.prog X.w) X.A (call (.builtin "set.add") [.ref D, .str k u]) Q E s := by
  refine setS_add (setSO_get I hD) room fun h' sb new => ?_
  have there : ∃ o, h'.get? D = some o := by
    obtain ⟨d, e, _⟩ := new
    exact ⟨_, e⟩
  exact h _ (I.write (e := D) (t' := s.toks + 1) (by rw [hD]; trivial) (.inl rfl) (fun b o hb hu => (sb.2 b hb).trans hu) there (setSO_new new))
end
end Z
set_option maxRecDepth 100000
set_option maxHeartbeats 4000000
namespace Z
open PySem PySem.Spec PyProof.Rows L2 PySem.Froz
structure Ord (α : Type) [DecidableEq α] where
  lt : α → α → Bool
  irr : ∀ a, lt a a = false
  tr : ∀ a b c, lt a b = true → lt b c = true → lt a c = true
  tot : ∀ a b, lt a b = false → lt b a = false → a = b
section
variable {α : Type} [DecidableEq α]
def Ord.ins (O : Ord α) (k : α) : List α → List α
  | [] => [k]
  | x :: r => if O.lt k x = true then k :: x :: r else if k = x then x :: r else x :: O.ins k r
def Ord.asc (O : Ord α) : List α → List α
  | [] => []
  | x :: r => O.ins x (O.asc r)
def Ord.Up (O : Ord α) (l : List α) : Prop := l.Pairwise fun a b => O.lt a b = true
variable {O : Ord α}
theorem Ord.mem_ins {k y : α} : ∀ {l : List α}, y ∈ O.ins k l ↔ y = k ∨ y ∈ l
  | [] => by simp [Ord.ins]
  | x :: r => by
    unfold Ord.ins
    split
    · simp
    · split
      · rename_i h
        subst h
        simp
      · rw [List.mem_cons, Ord.mem_ins (l := r), List.mem_cons]
        constructor
        · rintro (h | h | h)
          · exact .inr (.inl h)
          · exact .inl h
          · exact .inr (.inr h)
        · rintro (h | h | h)
          · exact .inr (.inl h)
          · exact .inl h
          · exact .inr (.inr h)
theorem Ord.up_ins {k : α} : ∀ {l : List α}, O.Up l → O.Up (O.ins k l)
  | [], _ => List.pairwise_singleton _ _
  | x :: r, h => by
    obtain ⟨h1, h2⟩ := List.pairwise_cons.mp h
    unfold Ord.ins
    split
    · rename_i hk
      refine List.pairwise_cons.mpr ⟨fun y hy => ?_, h⟩
      rcases List.mem_cons.mp hy with rfl | hy
      · exact hk
      · exact O.tr _ _ _ hk (h1 y hy)
    · rename_i hk
      split
      · exact h
      · rename_i hx
        refine List.pairwise_cons.mpr ⟨fun y hy => ?_, Ord.up_ins h2⟩
        rcases Ord.mem_ins.mp hy with rfl | hy
        · cases hc : O.lt x y with
          | true => rfl
          | false => exact absurd (O.tot _ _ (Bool.eq_false_iff.mpr hk) hc) hx
        · exact h1 y hy
theorem Ord.mem_asc {y : α} : ∀ {l : List α}, y ∈ O.asc l ↔ y ∈ l
  | [] => Iff.rfl
  | x :: r => by
    unfold Ord.asc
    rw [Ord.mem_ins, Ord.mem_asc (l := r), List.mem_cons]
theorem Ord.up_asc : ∀ {l : List α}, O.Up (O.asc l)
  | [] => List.Pairwise.nil
  | x :: r => Ord.up_ins Ord.up_asc
theorem Ord.up_eq : ∀ {l m : List α}, O.Up l → O.Up m → (∀ y, y ∈ l ↔ y ∈ m) → l = m
  | [], [], _, _, _ => rfl
  | [], b :: m, _, _, h => absurd ((h b).mpr List.mem_cons_self) (by simp)
  | a :: l, [], _, _, h => absurd ((h a).mp List.mem_cons_self) (by simp)
  | a :: l, b :: m, u, v, h => by
    obtain ⟨u1, u2⟩ := List.pairwise_cons.mp u
    obtain ⟨v1, v2⟩ := List.pairwise_cons.mp v
    have e : a = b := by
      rcases List.mem_cons.mp ((h a).mp List.mem_cons_self) with e | e
      · exact e
      · rcases List.mem_cons.mp ((h b).mpr List.mem_cons_self) with f | f
        · exact f.symm
        · have x1 := v1 a e
          have x2 := u1 b f
          have := O.tr _ _ _ x1 x2
          rw [O.irr] at this
          cases this
    subst e
    rw [Ord.up_eq u2 v2 fun y => ?_]
    constructor
    · intro hy
      rcases List.mem_cons.mp ((h y).mp (List.mem_cons_of_mem _ hy)) with e | e
      · subst e
        have := u1 y hy
        rw [O.irr] at this
        cases this
      · exact e
    · intro hy
      rcases List.mem_cons.mp ((h y).mpr (List.mem_cons_of_mem _ hy)) with e | e
      · subst e
        have := v1 y hy
        rw [O.irr] at this
        cases this
      · exact e
theorem Ord.asc_eq {l m : List α} (h : ∀ y, y ∈ l ↔ y ∈ m) : O.asc l = O.asc m := Ord.up_eq Ord.up_asc Ord.up_asc fun y => by rw [Ord.mem_asc, Ord.mem_asc, h]
theorem Ord.asc_up {l : List α} (h : O.Up l) : O.asc l = l := Ord.up_eq Ord.up_asc h fun y => Ord.mem_asc
theorem Ord.asc_asc {l : List α} : O.asc (O.asc l) = O.asc l := Ord.asc_up Ord.up_asc
theorem Ord.len_ins {k : α} : ∀ {l : List α}, (O.ins k l).length ≤ l.length + 1
  | [] => Nat.le_refl _
  | x :: r => by
    unfold Ord.ins
    split
    · exact Nat.le_refl _
    · split
      · exact Nat.le_succ _
      · exact Nat.succ_le_succ Ord.len_ins
theorem Ord.len_asc : ∀ {l : List α}, (O.asc l).length ≤ l.length
  | [] => Nat.le_refl _
  | x :: r => Nat.le_trans Ord.len_ins (Nat.succ_le_succ Ord.len_asc)
theorem Ord.up_nodup {l : List α} (h : O.Up l) : l.Nodup := h.imp fun {a b} h e => by
  subst e
  rw [O.irr] at h
  cases h
end
def sOrd : Ord PySem.Str where
  lt a b := decide (a.cps.toList < b.cps.toList)
  irr a := decide_eq_false (List.lt_irrefl _)
  tr a b c h1 h2 := decide_eq_true (List.lt_trans (of_decide_eq_true h1) (of_decide_eq_true h2))
  tot a b h1 h2 := str_ext (List.le_antisymm (List.not_lt.mp (of_decide_eq_false h2)) (List.not_lt.mp (of_decide_eq_false h1)))
def iOrd : Ord Int where
  lt a b := decide (a < b)
  irr a := decide_eq_false (Int.lt_irrefl _)
  tr a b c h1 h2 := decide_eq_true (Int.lt_trans (of_decide_eq_true h1) (of_decide_eq_true h2))
  tot a b h1 h2 := by
    have := of_decide_eq_false h1
    have := of_decide_eq_false h2
    omega
abbrev ascS (l : List PySem.Str) : List PySem.Str := sOrd.asc l
abbrev ascI (l : List Int) : List Int := iOrd.asc l
theorem rising_up : ∀ {p : PySem.Str} {l : List PySem.Str}, risingS p l = true → (p :: l).Pairwise fun a b => sOrd.lt b a = false
  | p, [], _ => List.pairwise_singleton _ _
  | p, x :: r, h => by
    have h : (!ltCps x.cps.toList p.cps.toList && risingS x r) = true := h
    rw [Bool.and_eq_true] at h
    obtain ⟨h1, h2⟩ := h
    have ih := rising_up h2
    have h1' : sOrd.lt x p = false := by
      rw [ltCps_eq] at h1
      show decide (x.cps.toList < p.cps.toList) = false
      simpa using h1
    refine List.pairwise_cons.mpr ⟨fun y hy => ?_, ih⟩
    rcases List.mem_cons.mp hy with rfl | hy
    · exact h1'
    · have h3 := (List.pairwise_cons.mp ih).1 y hy
      cases hc : sOrd.lt y p with
      | false => rfl
      | true =>
        exfalso
        by_cases e : sOrd.lt p x = true
        · have := sOrd.tr _ _ _ hc e
          rw [this] at h3
          cases h3
        · have e2 := sOrd.tot _ _ (Bool.eq_false_iff.mpr e) h1'
          rw [← e2, hc] at h3
          cases h3
theorem sorted_asc {l m : List PySem.Str} (h : sortedS l = true) (nd : l.Nodup) (hm : ∀ y, y ∈ l ↔ y ∈ m) : l = ascS m := by
  refine Ord.up_eq ?_ Ord.up_asc fun y => by rw [hm, Ord.mem_asc]
  cases l with
  | nil => exact List.Pairwise.nil
  | cons p r =>
    have h := rising_up (show risingS p r = true from h)
    refine (h.and nd).imp fun {a b} ⟨h1, h2⟩ => ?_
    cases hc : sOrd.lt a b with
    | true => rfl
    | false => exact absurd (sOrd.tot _ _ hc h1) h2
theorem ints_asc {l m : List Int} (h : l.Pairwise (· < ·)) (hm : ∀ y, y ∈ l ↔ y ∈ m) : l = ascI m :=
  Ord.up_eq (O := iOrd) (h.imp fun {a b} h => (decide_eq_true h : decide (a < b) = true)) Ord.up_asc fun y => by rw [hm, Ord.mem_asc]
def mor {κ : Type} [DecidableEq κ] (l : List κ) (k : κ) : List κ := if k ∈ l then l else k :: l
theorem mem_mor {κ : Type} [DecidableEq κ] {l : List κ} {k y : κ} : y ∈ mor l k ↔ y ∈ l ∨ y = k := by
  unfold mor
  split
  · exact ⟨.inl, fun h => h.elim id fun e => by rw [e]; assumption⟩
  · rw [List.mem_cons]
    exact Or.comm
theorem len_mor {κ : Type} [DecidableEq κ] {l : List κ} {k : κ} : (mor l k).length ≤ l.length + 1 := by
  unfold mor
  split
  · exact Nat.le_succ _
  · exact Nat.le_refl _
theorem nodup_mor {κ : Type} [DecidableEq κ] {l : List κ} {k : κ} (h : l.Nodup) : (mor l k).Nodup := by
  unfold mor
  split
  · exact h
  · exact List.nodup_cons.mpr ⟨by assumption, h⟩
def mors {κ : Type} [DecidableEq κ] (l ks : List κ) : List κ := ks.foldl mor l
theorem mem_mors {κ : Type} [DecidableEq κ] : ∀ {ks l : List κ} {y : κ}, y ∈ mors l ks ↔ y ∈ l ∨ y ∈ ks
  | [], l, y => by simp [mors]
  | k :: ks, l, y => by
    show y ∈ mors (mor l k) ks ↔ _
    rw [mem_mors, mem_mor, List.mem_cons, or_assoc]
theorem len_mors {κ : Type} [DecidableEq κ] : ∀ {ks l : List κ}, (mors l ks).length ≤ l.length + ks.length
  | [], l => Nat.le_refl _
  | k :: ks, l => by
    show (mors (mor l k) ks).length ≤ l.length + (ks.length + 1)
    have := len_mors (ks := ks) (l := mor l k)
    have := len_mor (l := l) (k := k)
    omega
theorem nodup_mors {κ : Type} [DecidableEq κ] : ∀ {ks l : List κ}, l.Nodup → (mors l ks).Nodup
  | [], l, h => h
  | k :: ks, l, h => nodup_mors (ks := ks) (l := mor l k) (nodup_mor h)
abbrev setNew (w : World) : Obj := { cls := .type "set", dict := none, data := .set #[] 0 (.fresh 0 0 (!w.params.followText "set-order")) }
structure SK (P : Program) (w : World) (κ : Type) [DecidableEq κ] where
  R : Heap → Addr → List κ → Prop
  mkv : κ → Tok → Value
  vv : κ → V
  rel : ∀ {k : κ} {y : Value}, RelV (vv k) y → ∃ u, y = mkv k u
  keep : ∀ {h h' : Heap} {a : Addr} {l : List κ}, R h a l → (∀ o, h.get? a = some o → h'.get? a = some o) → R h' a l
  len : ∀ {h : Heap} {a : Addr} {l : List κ}, R h a l → ∃ o es ep t, h.get? a = some o ∧ o.ExactSet ∧ o.data = .set es ep t ∧ t.fits es.size = true ∧ es.size = l.length ∧ es.size < scanBound
  fresh : ∀ {h : Heap} {a : Addr}, h.get? a = some (setNew w) → R h a []
  add : ∀ {A : Around} {E : Value → Shared → Prop} {s : Shared} {a : Addr} {l : List κ} {k : κ} {u : Tok} {Q : Bool → Shared → Prop}, R s.heap a l → l.length + 1 < scanBound →
    (∀ h' b, Heap.SameBut a s.heap h' → R h' a (mor l k) → Q b { s with heap := h', toks := s.toks + 1 }) → wpAny (model P w) A (setAdd a (mkv k u)) Q E s
theorem led_new (w : World) : w.params.followText "set-order" = true ∨ (SetTable.fresh 0 0 (!w.params.followText "set-order")).led = true := by
  show _ ∨ (!w.params.followText "set-order") = true
  cases w.params.followText "set-order" with
  | false => exact .inr rfl
  | true => exact .inl rfl
def strSK (P : Program) (w : World) : SK P w PySem.Str where
  R := SetS P w
  mkv := Value.str
  vv := V.str
  rel h := h
  keep h k := h.at k
  len h := by
    obtain ⟨D, e, F, nd, bl, _⟩ := h
    exact ⟨_, D.1, D.2.1, D.2.2, e, ⟨rfl, rfl, rfl⟩, rfl, F.fit, F.sz, by rw [F.sz]; exact bl⟩
  fresh h := ⟨(#[], 0, .fresh 0 0 (!w.params.followText "set-order")), h, TxOk.nil (by rfl), List.nodup_nil, by decide, List.Pairwise.nil, led_new w⟩
  add {A E s a l k u Q} R room hQ := by
    unfold setAdd
    refine wpAny_holding (wpAny_bind ((PySem.strKind P w).pyHash (is_str k u) ?_))
    exact addS_hashed (s := { s with toks := s.toks + 1 }) R room fun h' b sb r => hQ h' b sb r
def intSK (P : Program) (w : World) : SK P w Int where
  R h a l := l.Nodup ∧ SetR w h a (fun j => decide (j ∈ l)) l.length
  mkv := Value.int
  vv := V.int
  rel h := h
  keep h k := ⟨h.1, h.2.at k⟩
  len h := by
    obtain ⟨_, o, es, ep, t, ho, hex, hd, g, nd, hm, hb, hf, hn, _⟩ := h
    exact ⟨o, es, ep, t, ho, hex, hd, hf, hn, hb⟩
  fresh h := ⟨List.nodup_nil, _, #[], 0, _, h, ⟨rfl, rfl, rfl⟩, rfl, (fun e he => by simp at he), (by simp), (fun k => by simp), (by decide), (by rfl), rfl, List.Pairwise.nil, led_new w⟩
  add {A E s a l k u Q} R room hQ := by
    unfold setAdd
    refine wpAny_holding (wpAny_bind ((PySem.intKind P w).pyHash (intKind_is P w k u) ?_))
    refine setR_add_hashed (s := { s with toks := s.toks + 1 }) R.2 room fun h' sb r => hQ h' _ sb ⟨nodup_mor R.1, ?_⟩
    have e : (if decide (k ∈ l) = true then l.length else l.length + 1) = (mor l k).length := by
      unfold mor
      by_cases h : k ∈ l
      · rw [if_pos (decide_eq_true h), if_pos h]
      · rw [if_neg (by rw [decide_eq_false h]; exact Bool.false_ne_true), if_neg h]
        rfl
    rw [e] at r
    refine r.congr fun j => ?_
    rw [← Bool.decide_or]
    exact decide_eq_decide.mpr mem_mor
section
variable {P : Program} {w : World} {κ : Type} [DecidableEq κ] {N : SK P w κ} {A : Around} {E : Value → Shared → Prop} {s : Shared} {a : Addr} {l : List κ}
theorem SK.typ (h : N.R s.heap a l) : s.TypeIs (.ref a) "set" := by
  obtain ⟨o, es, ep, t, ho, hex, _⟩ := N.len h
  exact ⟨o, ho, hex.1⟩
theorem SK.addC {k : κ} {u : Tok} {Q : Value → Shared → Prop} (h : N.R s.heap a l) (room : l.length + 1 < scanBound)
    (hQ : ∀ h', Heap.SameBut a s.heap h' → N.R h' a (mor l k) → Q .none { s with heap := h', toks := s.toks + 1 }) : wpAny (model P w) A (call (.builtin "set.add") [.ref a, N.mkv k u]) Q E s := by
  refine wpAny_call_entry F.slot_set_add (SK.typ h) F.entry_set_add ?_ (F.args_set_add_2 _ _)
  unfold Builtin.«set.add» Builtin.Frozenset.oneOther
  simp only [List.isEmpty_nil, bind_assoc]
  unfold Builtin.Frozenset.addrOf
  refine wpAny_bind (wpAny_pure ?_)
  try dsimp only
  refine wpAny_bind (wpAny_pure ?_)
  try dsimp only
  refine wpAny_bind (N.add h room fun h' b sb r => ?_)
  show wpAny _ _ (ret Value.none) _ _ _
  exact wpAny_pure ⟨_, rfl, hQ h' sb r⟩
end
def SetH {P : Program} {w : World} {κ : Type} [DecidableEq κ] (N : SK P w κ) (a : Addr) (l : List κ) : HO := .ext fun h => N.R h a l
section
variable {X : Cx} {pins : List (Addr × Obj)} {σ : L2.St} {H : Hp} {s : Shared} {E : Value → Shared → Prop} {κ : Type} [DecidableEq κ] {D : Addr} {l : List κ}
theorem setH_new {P : Program} {w : World} {N : SK P w κ} {H : Hp} {h : Heap} {a : Addr} (R : N.R h a l) : ObjOk P w H h a (SetH N a l) :=
  ⟨R, by obtain ⟨o, _, _, _, e, _⟩ := N.len R; exact ⟨_, e⟩, fun h1 h2 r k => N.keep r k⟩
theorem setH_get {N : SK X.prog X.w κ} (I : Inv X pins σ H s) (h : H D = some (SetH N D l)) : N.R s.heap D l := (I.hok D _ h).1
theorem addH_ok {P : Program} {w : World} {N : SK P w κ} (hp : X.prog = P) (hw : X.w = w) {k : κ} {u : Tok} {Q : Value → Shared → Prop} (I : Inv X pins σ H s) (hD : H D = some (SetH N D l)) (room : l.length + 1 < scanBound)
    (h : ∀ s', Inv X pins σ (upd H D (SetH N D (mor l k))) s' → Q .none s') : wpAny (model X.prog X.w) X.A (call (.builtin "set.add") [.ref D, N.mkv k u]) Q E s := by
  subst hp
  subst hw
  refine SK.addC (setH_get I hD) room fun h' sb new => ?_
  have there : ∃ o, h'.get? D = some o := by
    obtain ⟨o, _, _, _, e, _⟩ := N.len new
    exact ⟨_, e⟩
  exact h _ (I.write (e := D) (t' := s.toks + 1) (by rw [hD]; trivial) (.inl rfl) (fun b o hb hu => (sb.2 b hb).trans hu) there (setH_new new))
end
end Z
set_option maxRecDepth 100000
set_option maxHeartbeats 4000000
namespace Z
open PySem PySem.Spec PyProof.Rows L2 PySem.Froz
section
variable {X : Cx} {κ : Type} [DecidableEq κ]
def tScH {P : Program} {w : World} (N : SK P w κ) (wi : TI) (g : TG) (tt : TT) (te : TE) (vs : List Nat) : TE := fun σ H Q => wi σ H fun J H1 => ∀ D, H1 D = none → ∃ W : Nat → Nat → Hp → Prop, (∃ m, W 0 m (upd H1 D (SetH N D []))) ∧ ∀ i m H, W i m H →
  (J.stop i H ∧ Q (.ref D) H) ∨ (J.go i H ∧ ∃ Nx : Hp → Prop, (∀ H', Nx H' → ∃ m', m' < m ∧ W (i + 1) m' H') ∧ ∀ x H', J.yld i H x H' → g x (wipe σ vs) H' fun σ2 H2 => wipe σ2 vs = wipe σ vs ∧ tt σ2 H2 fun b H3 =>
    if b = true then te σ2 H3 fun y H4 => ∃ (k : κ) (l : List κ), y = N.vv k ∧ H4 D = some (SetH N D l) ∧ l.length + 1 < scanBound ∧ Nx (upd H4 D (SetH N D (mor l k))) else Nx H3)
theorem sch_core {P : Program} {w : World} (N : SK P w κ) (hP : X.prog = P) (hw : X.w = w) {pins : List (Addr × Obj)} {s : Shared} {σ : L2.St} {H : Hp} {Q : VK} {elt tg iter : Expr} {ifs : List Expr} {scope : Scope} {own : List (PySem.Str × Nat)} {pos pos' : Pos} {wi : TI} {g : TG} {tt : TT} {te : TE} {use : Option (Value → Sem Unit)} {Qf : Value → Shared → Prop}
    (calm : X.calm = true) (nd : X.N.Nodup) (I : Inv X pins σ H s) (di : PI X tg iter wi) (ok : BlkOk X.N X.env.scope scope own)
    (dg : ∀ (s : Shared) (H : Hp) (C : Addr) (cl : List (PySem.Str × Addr)) (fp : List Addr), PG (X.blk s H scope (compEnvC scope cl C X.env) fp) tg g) (dt : ∀ (s : Shared) (H : Hp) (C : Addr) (cl : List (PySem.Str × Addr)) (fp : List Addr), PTs (X.blk s H scope (compEnvC scope cl C X.env) fp) ifs tt)
    (de : ∀ (s : Shared) (H : Hp) (C : Addr) (cl : List (PySem.Str × Addr)) (fp : List Addr), PE (X.blk s H scope (compEnvC scope cl C X.env) fp) elt te) (un : ∀ x, foldedSetIterable iter X.env x = pure x)
    (h : tScH N wi g tt te (own.map (·.2)) σ H Q)
    (hR : ∀ D C s' m H', Inv X pins σ H' s' → Q (.ref D) H' → s'.heap.Ns C m → FpOk X pins H' C → compPost (model X.prog X.w) X.A X.xe use Qf (.ref D) C (.ok .next) s') :
    wpAny (model X.prog X.w) X.A (comprehension (.SetComp elt [⟨tg, iter, ifs, 0⟩] scope pos) scope X.env pos' (newSet (.type "set")) false (eval iter X.env) use) Qf X.xe s := by
  have free : ∀ y ∈ scope.names, y.2 = .free → ∃ c, X.env.cells.lookup y.1 = some c := fun y hy e =>
    (ok.free y hy e).elim (fun k => I.ok.has _ (.inl k)) fun k => I.ok.has _ (.inr k)
  refine wpAny_comprehension_free (use := use) rfl un (closure_ok free) ok.kind (fun y hy e => by rw [ok.uniq y hy, e])
    (thn (di.run pins s σ H _ I h) fun xv sa ha => thn ha fun itv sb hb => ?_)
  obtain ⟨it, fp, tn, J, Hb, e, Ib, T, stb, fb, q⟩ := hb
  subst e
  refine PpSet.newSet_ok (newEnv_comp ?_)
  generalize eD : sb.heap.objs.size = D
  have nD : Hb D = none := Ib.hok.fresh (Nat.le_of_eq eD)
  obtain ⟨W, ⟨m0, w0⟩, turn⟩ := q D nD
  generalize ec : ({ sb with heap := sb.heap.push (setNew X.w) } : Shared) = sc
  have hc3 : sc.heap = sb.heap.push (setNew X.w) := by rw [← ec]
  have Ic : Inv X pins σ (upd Hb D (SetH N D [])) sc := by
    rw [← ec]
    refine Ib.laid (t' := sb.toks) (fun b o e => Heap.get?_push_of_some _ e) (Nat.le_of_eq eD) ?_
    subst hw
    subst hP
    rw [← eD]
    exact setH_new (N.fresh (Heap.get?_push_size _ rfl))
  have small : ∀ b ∈ fp, b < sb.heap.objs.size := fun b hb => by
    obtain ⟨o, e, _⟩ := T.obj _ _ stb b hb
    exact Heap.lt_size e
  have fc : ∀ b ∈ fp, FpOk X pins (upd Hb D (SetH N D [])) b ∧ b < sc.heap.objs.size := fun b hb => by
    have lt := small b hb
    refine ⟨⟨?_, (fb b hb).2⟩, by rw [hc3, Heap.size_push]; exact Nat.lt_succ_of_lt lt⟩
    rw [upd_ne (by rw [← eD]; exact Nat.ne_of_lt lt)]
    exact (fb b hb).1
  have stc : tn 0 sc.heap := T.keep _ _ _ stb fun b _ o e => by rw [hc3]; exact Heap.get?_push_of_some _ e
  have Id := block_start Ic ok nd fc
  have pg := dg sc (upd Hb D (SetH N D [])) sc.heap.objs.size (cellsFrom (sc.heap.objs.size + 1) scope.names (cloFrom X.env.cells scope.names [])) fp
  have pt := dt sc (upd Hb D (SetH N D [])) sc.heap.objs.size (cellsFrom (sc.heap.objs.size + 1) scope.names (cloFrom X.env.cells scope.names [])) fp
  have pe := de sc (upd Hb D (SetH N D [])) sc.heap.objs.size (cellsFrom (sc.heap.objs.size + 1) scope.names (cloFrom X.env.cells scope.names [])) fp
  show codeAny _ _ (.compStart (.SetComp elt [⟨tg, iter, ifs, 0⟩] scope pos) 0 (.ref it) (.ref D) (compEnvC scope (cellsFrom (sc.heap.objs.size + 1) scope.names (cloFrom X.env.cells scope.names [])) sc.heap.objs.size X.env)) (compPost (model X.prog X.w) X.A X.xe use Qf (.ref D) sc.heap.objs.size) { sc with heap := pushCells (sc.heap.push { cls := .type "dict", data := .dict #[] }) scope.names }
  have nfp : ∀ b ∈ fp, (upd Hb D (SetH N D [])) b = none := fun b hb => (fc b hb).1.1
  generalize ece : compEnvC scope (cellsFrom (sc.heap.objs.size + 1) scope.names (cloFrom X.env.cells scope.names [])) sc.heap.objs.size X.env = ce at Id pg pt pe ⊢
  have locs : ce.locals = sc.heap.objs.size := by subst ece; rfl
  generalize eHc : upd Hb D (SetH N D []) = Hc at Ic Id pg pt pe w0 nfp fc
  generalize ed : ({ sc with heap := pushCells (sc.heap.push { cls := .type "dict", data := .dict #[] }) scope.names } : Shared) = sd at Id ⊢
  have std : tn 0 sd.heap := T.keep _ _ _ stc fun b _ o e => by rw [← ed]; exact pushCells_keeps _ _ _ _ (Heap.get?_push_of_some _ e)
  have stat : ∀ {σ' : L2.St} {H' : Hp} {s' : Shared}, Inv (X.blk sc Hc scope ce fp) [] σ' H' s' → (∀ b ∈ fp, H' b = none) → ∀ b ∈ fp, FpOk (X.blk sc Hc scope ce fp) [] H' b := fun {σ' H' s'} I' hn b hb =>
    ⟨hn b hb, (I'.ok.exf b hb).1, I'.ok.exfs b hb, .inl hb, fun x c e => (I'.ok.exf b hb).2 x c e, fun p hp => absurd (show p ∈ ([] : List (Addr × Obj)) ++ [] from hp) (by simp)⟩
  refine PpSet.codeAny_compStart_set ?lp (T.self X.A 0 _ _ _ std ?lp)
  case lp =>
    refine PpSet.compLoopS_any (fun n s' => ∃ i H', Inv (X.blk sc Hc scope ce fp) [] (wipe σ (own.map (·.2))) H' s' ∧ tn i s'.heap ∧ (∀ b ∈ fp, H' b = none) ∧ W i n H') ?_ m0 ⟨0, Hc, Id, std, nfp, w0⟩
    rintro n se ⟨i, He, Ie, ste, ne, we⟩
    rcases turn i n He we with ⟨stop, qq⟩ | ⟨go, Nx, hNx, step⟩
    · refine thnF (T.done (X.blk sc Hc scope ce fp) rfl rfl rfl calm i [] se _ He (fun _ _ => False) Ie (stat Ie ne) ste stop) fun r sf ⟨hr, If⟩ => ?_
      subst hr
      have Ig : Inv X pins σ He sf := Ic.call' (ch := fp) If.os If.base If.hok If.bare fun b hb => ⟨(fc b hb).1.2.2.2.1, (fc b hb).1.2.1, (fc b hb).1.2.2.2.2.1, (fc b hb).1.2.2.2.2.2⟩
      have nC : He sc.heap.objs.size = none := by
        have z : He ce.locals = none := If.free
        rwa [locs] at z
      obtain ⟨m, hn, _⟩ := If.loc
      have hn : sf.heap.Ns ce.locals m := hn
      rw [locs] at hn
      exact hR D sc.heap.objs.size sf m He Ig qq hn (Ic.fpOk (Nat.le_refl _) nC)
    · refine thnF (T.item (X.blk sc Hc scope ce fp) rfl rfl rfl calm i [] se _ He (fun _ _ => False) Ie (stat Ie ne) ste go) fun r sf ⟨u, hr, hf⟩ => ?_
      subst hr
      refine thnF hf fun _ sg ⟨x, Hg, Ig, rg, yg, stg, ng⟩ => ?_
      have Ig' := Ig.pinned (stat Ig ng) (T.obj _ _ stg)
      refine thnF (pg.run _ sg _ Hg x u _ Ig' rg (step x Hg yg)) fun _ sh ⟨σh, Hh, Ih, hwh, qh⟩ => ?_
      refine thnF (pt.run _ sh σh Hh _ Ih qh) fun b si ⟨Hi, Ii, qi⟩ => ?_
      have fin : ∀ {s' : Shared} {H' : Hp}, Inv (X.blk sc Hc scope ce fp) ([] ++ pinsAt fp sg.heap) σh H' s' → Nx H' → ∃ m, m < n ∧ ∃ i H', Inv (X.blk sc Hc scope ce fp) [] (wipe σ (own.map (·.2))) H' s' ∧ tn i s'.heap ∧ (∀ b ∈ fp, H' b = none) ∧ W i m H' := fun {s' H'} I' nx => by
        obtain ⟨m', hm, w'⟩ := hNx H' nx
        have pinned : ∀ b ∈ fp, ∀ o, sg.heap.get? b = some o → s'.heap.get? b = some o ∧ H' b = none := fun b hb o e =>
          let z := I'.pin (b, o) (List.mem_append_right _ (List.mem_append_right _ (mem_pinsAt hb e)))
          ⟨z.1, z.2.1⟩
        have hl : (wipe σ (own.map (·.2))).length = σh.length := by rw [← hwh, wipe_length]
        refine ⟨m', hm, i + 1, H', (I'.unpinned (pins := [])).weak hl (fun j v e => ?_), T.keep _ _ _ stg fun b hb o e => (pinned b hb o e).1, fun b hb => ?_, w'⟩
        · rw [← hwh] at e
          exact (wipe_some e).1
        · obtain ⟨o, e, _⟩ := T.obj _ _ stg b hb
          exact (pinned b hb o e).2
      cases b with
      | false =>
        simp only [Bool.false_eq_true, if_false] at qi ⊢
        exact fin Ii qi
      | true =>
        simp only [if_true] at qi ⊢
        refine thnF (pe.run _ si σh Hi _ Ii qi) fun z sj ⟨yv, Hj, Ij, rj, k, l, ey, hDj, room, nx⟩ => ?_
        subst ey
        obtain ⟨u', rfl⟩ := N.rel rj
        exact addH_ok (X := X.blk sc Hc scope ce fp) hP hw Ij hDj room fun sk Ik => fin Ik nx
theorem pe_scH {P : Program} {w : World} (N : SK P w κ) {elt tg iter : Expr} {ifs : List Expr} {scope : Scope} {own : List (PySem.Str × Nat)} {pos : Pos} {wi : TI} {g : TG} {tt : TT} {te : TE} (calm : X.calm = true) (nd : X.N.Nodup) (di : PI X tg iter wi) (ok : BlkOk X.N X.env.scope scope own)
    (dg : ∀ (s : Shared) (H : Hp) (C : Addr) (cl : List (PySem.Str × Addr)) (fp : List Addr), PG (X.blk s H scope (compEnvC scope cl C X.env) fp) tg g) (dt : ∀ (s : Shared) (H : Hp) (C : Addr) (cl : List (PySem.Str × Addr)) (fp : List Addr), PTs (X.blk s H scope (compEnvC scope cl C X.env) fp) ifs tt)
    (de : ∀ (s : Shared) (H : Hp) (C : Addr) (cl : List (PySem.Str × Addr)) (fp : List Addr), PE (X.blk s H scope (compEnvC scope cl C X.env) fp) elt te) (hP : X.prog = P := by rfl) (hw : X.w = w := by rfl) (un : ∀ x, foldedSetIterable iter X.env x = pure x := by intro _; rfl) :
    PE X (.SetComp elt [⟨tg, iter, ifs, 0⟩] scope pos) (tScH N wi g tt te (own.map (·.2))) := by
  refine ⟨fun pins s σ H Q I h => ?_⟩
  rw [PpSet.eval_SetComp]
  refine sch_core N hP hw calm nd I di ok dg dt de un h fun D C s' m H' I' q hn f => ⟨m, hn, fun h'' sb => ?_⟩
  obtain ⟨f0, f1, f2, f3, f4, f5⟩ := f
  exact ⟨.ref D, H', I'.turned (t' := s'.toks) (fun b o hb e => (sb.2 b hb).trans e) f0 f1 f3 f4 f5, rfl, q⟩
theorem sch_it {P : Program} {w : World} {N : SK P w κ} {J : It} {n : Nat} {G : Hp → Prop} {Y : Nat → Hp → V → Hp → Prop} (wk : Walk J n G Y) {g : TG} {tt : TT} {te : TE} {vs : List Nat} {σ : L2.St} {H1 : Hp} {D : Addr} {Qd : Hp → Prop} (Pv : Nat → Hp → Prop) (h0 : Pv 0 (upd H1 D (SetH N D []))) (hG : ∀ i H, i ≤ n → Pv i H → G H)
    (hs : ∀ i x H H', i < n → Pv i H → Y i H x H' → g x (wipe σ vs) H' fun σ2 H2 => wipe σ2 vs = wipe σ vs ∧ tt σ2 H2 fun b H3 =>
      if b = true then te σ2 H3 fun y H4 => ∃ (k : κ) (l : List κ), y = N.vv k ∧ H4 D = some (SetH N D l) ∧ l.length + 1 < scanBound ∧ Pv (i + 1) (upd H4 D (SetH N D (mor l k))) else Pv (i + 1) H3) (hd : ∀ H, Pv n H → Qd H) :
    ∃ W : Nat → Nat → Hp → Prop, (∃ m, W 0 m (upd H1 D (SetH N D []))) ∧ ∀ i m H, W i m H →
      (J.stop i H ∧ Qd H) ∨ (J.go i H ∧ ∃ Nx : Hp → Prop, (∀ H', Nx H' → ∃ m', m' < m ∧ W (i + 1) m' H') ∧ ∀ x H', J.yld i H x H' → g x (wipe σ vs) H' fun σ2 H2 => wipe σ2 vs = wipe σ vs ∧ tt σ2 H2 fun b H3 =>
        if b = true then te σ2 H3 fun y H4 => ∃ (k : κ) (l : List κ), y = N.vv k ∧ H4 D = some (SetH N D l) ∧ l.length + 1 < scanBound ∧ Nx (upd H4 D (SetH N D (mor l k))) else Nx H3) := by
  refine ⟨fun i m H => m = n - i ∧ i ≤ n ∧ Pv i H, ⟨n, by simp, Nat.zero_le _, h0⟩, ?_⟩
  rintro i m H ⟨rfl, hi, p⟩
  have q := hG i H hi p
  rcases Nat.lt_or_ge i n with lt | ge
  · exact .inr ⟨wk.goes i H lt q, Pv (i + 1), fun H' p' => ⟨n - (i + 1), by omega, rfl, lt, p'⟩, fun x H' y => hs i x H H' lt p (wk.yields i H x H' lt q y)⟩
  · obtain rfl : i = n := by omega
    exact .inl ⟨wk.stops H q, hd H p⟩
end
end Z
set_option maxRecDepth 100000
set_option maxHeartbeats 4000000
namespace Z
open PySem PySem.Spec PyProof.Rows L2 PySem.Froz
section
variable {P : Program} {w : World} {κ : Type} [DecidableEq κ] {N : SK P w κ}
section
variable {A : Around} {I : Addr} {fp wr : List Addr} {G : Array GenState → Array GenState → Prop} {n : Nat} {Pv : Nat → Value → Prop} {St : Nat → Shared → Prop} {R : Result → Shared → Prop}
theorem upd_loop (W : WalksS P w A.in1 I fp wr G n Pv St) (D : Addr) (nf : D ∉ fp) (ks : List κ) (hn : ks.length = n) (room : ks.length + 1 < scanBound) (val : ∀ i v, Pv i v → ∃ k u, ks[i]? = some k ∧ v = N.mkv k u) :
    ∀ (m i : Nat) (s : Shared), n - i = m → i ≤ n → St i s → N.R s.heap D (mors [] (ks.take i)) →
      (∀ s', Moved (D :: wr) G s s' → N.R s'.heap D (mors [] ks) → R (.ok (.ret .none)) s') → codeAny (model P w) A (.builtin "set.update.loop" ⟨[.ref D, .ref I], []⟩) R s
  | 0, i, s, hm, hi, st, hS, k => by
    obtain rfl : i = n := by omega
    refine codeAny_builtin PyProof.Rows.F.entry_set_update_loop ?_
    rw [Around.under_plainId PyProof.Rows.F.plain_set_update_loop _]
    show wpAny _ A.in1 (pyNext (.ref I) >>= _) _ _ s
    refine wpAny_bind (W.done s _ _ st fun s' mv => ?_)
    show wpAny _ A.in1 (ret Value.none) _ _ s'
    rw [← hn, List.take_length] at hS
    exact wpAny_pure (k s' (mv.mono fun b hb => List.mem_cons_of_mem _ hb) (N.keep hS fun o e => mv.heap D _ (fun z => nf (W.sub _ z)) e))
  | m + 1, i, s, hm, hi, st, hS, k => by
    have lt : i < n := by omega
    refine codeAny_builtin PyProof.Rows.F.entry_set_update_loop ?_
    rw [Around.under_plainId PyProof.Rows.F.plain_set_update_loop _]
    show wpAny _ A.in1 (pyNext (.ref I) >>= _) _ _ s
    refine wpAny_bind (W.item i s _ _ lt st fun v s' hP st' mv => ?_)
    obtain ⟨x, u, hx, rfl⟩ := val i v hP
    have hS' : N.R s'.heap D (mors [] (ks.take i)) := N.keep hS fun o e => mv.heap D _ (fun z => nf (W.sub _ z)) e
    show wpAny _ A.in1 (holding [N.mkv x u] (setAdd D (N.mkv x u)) >>= _) _ _ s'
    have few : (mors [] (ks.take i)).length + 1 < scanBound := by
      have h1 := len_mors (l := []) (ks := ks.take i)
      have h2 : (ks.take i).length ≤ ks.length := by rw [List.length_take]; exact Nat.min_le_right ..
      simp only [List.length_nil] at h1
      omega
    refine wpAny_bind (wpAny_holding (N.add hS' few fun h' b sb hN => ?_))
    have step : mor (mors [] (ks.take i)) x = mors [] (ks.take (i + 1)) := by
      unfold mors
      rw [List.take_succ, hx]
      show _ = List.foldl mor [] (ks.take i ++ [x])
      rw [List.foldl_append]
      rfl
    rw [step] at hN
    refine wpAny_pure ⟨plainId_quiet PyProof.Rows.F.plain_set_update_loop _, upd_loop W D nf ks hn room val m (i + 1) _ (by omega) lt (W.frame _ s' _ _ st' (Nat.le_succ _) fun c hc o e => ?_) hN fun s2 mv2 hN2 => ?_⟩
    · rw [sb.2 c fun z => nf (by rw [← z]; exact hc)]
      exact e
    · refine k s2 (Moved.trans W.gtrans ((mv.mono fun b hb => List.mem_cons_of_mem _ hb).then_heap (Nat.le_succ _) fun c o hc e => ?_) mv2) hN2
      rw [sb.2 c fun z => hc (by rw [z]; exact List.mem_cons_self)]
      exact e
end
section
variable {A : Around} {E : Value → Shared → Prop} {s : Shared}
set_option maxHeartbeats 8000000 in
theorem set_from {l : Addr} {items : Array Value} {ks : List κ} {Q : Value → Shared → Prop} (calm : A.handled = none) (hl : s.heap.IsList l items ∨ s.heap.IsTuple l items) (hn : ks.length = items.size)
    (val : ∀ (i : Nat) (v : Value), items[i]? = some v → ∃ k u, ks[i]? = some k ∧ v = N.mkv k u) (room : ks.length + 1 < scanBound)
    (k : ∀ (h' : Heap) (tk : Nat), N.R h' s.heap.objs.size (mors [] ks) → (∀ b o, s.heap.get? b = some o → h'.get? b = some o) → Q (.ref s.heap.objs.size) { s with heap := h', toks := tk }) :
    wpAny (model P w) A (call (.type "set") [.ref l]) Q E s := by
  obtain ⟨cc, tl, mro⟩ := PySem.F.called_set.mro
  have made := PySem.F.called_set.made
  have subs := PySem.F.called_set.sub
  refine wpAny_call (codeAny_of_tree ?_)
  show wpAny _ _ (callAny (.type "set") _) _ _ _
  refine wpAny_pure ⟨Code.quiet_builtin _ (by decide +kernel), codeAny_builtin PySem.F.entry_type_call ?_⟩
  rw [Around.under_plain (weight_type_call_type "set" [.ref l] []) rfl]
  have nT := PySem.F.called_set.notType
  have can := PySem.F.called_set.canCreate
  have tc := PySem.F.typeCall_set_1 (.ref l)
  repeat (any_goals (first | assumption | wp_step))
  refine codeAny_mono (code_set_led1 (.ref l) (E := E) (Q₁ := fun obj s₁ => obj = .ref s.heap.objs.size ∧ s₁ = { s with heap := s.heap.push (setNew w) }) ⟨rfl, rfl⟩) fun r s₁ hr => ?_
  match r, hr with
  | .error e, hr => exact hr
  | .ok .next, hr => exact hr.elim
  | .ok .brk, hr => exact hr.elim
  | .ok .cont, hr => exact hr.elim
  | .ok (.ret obj), hr =>
    obtain ⟨rfl, rfl⟩ := hr
    have atD : (s.heap.push (setNew w)).get? s.heap.objs.size = some (setNew w) := Heap.get?_push_size _ rfl
    have isT : Shared.TypeIs { s with heap := s.heap.push (setNew w) } (.ref s.heap.objs.size) "set" := ⟨_, atD, rfl⟩
    have li := PySem.F.called_set.init.lookup
    have bi := PySem.F.called_set.init.bind (.ref s.heap.objs.size)
    repeat (any_goals (first | assumption | wp_step))
    refine codeAny_mono (codeAny_call_builtin (R := wants (fun r s₂ => r = .none ∧ ∃ h' tk, s₂ = { s with heap := h', toks := tk } ∧ N.R h' s.heap.objs.size (mors [] ks) ∧ (∀ b o, s.heap.get? b = some o → h'.get? b = some o)) E) PySem.F.called_set.init.plain PySem.F.entry_set_init (check_set_init_1 isT ?_)) fun r₂ s₂ hr₂ => ?_
    · have hz1 : (s.heap.push (setNew w)).objs.size = s.heap.objs.size + 1 := Heap.size_push ..
      have calm3 : A.in1.in1.in1.handled = none := by simp [calm]
      have rest : ∀ {T : String} {s3 : Shared} {St : Nat → Shared → Prop} {wr fp : List Addr} {G : Array GenState → Array GenState → Prop}, (∀ b ∈ fp, b = s.heap.objs.size + 1 ∨ b = l) → (∀ b ∈ wr, b = s.heap.objs.size + 1) →
          WalksS P w A.in1.in1.in1 (s.heap.objs.size + 1) fp wr G items.size (fun i v => items[i]? = some v) St → (∀ a b, G a b → b = a) →
          s3 = { s with heap := (s.heap.push (setNew w)).push { cls := .type T, data := .fields #[.ref l, .int 0 0] } } → St 0 s3 → l < s.heap.objs.size →
          codeAny (model P w) A.in1.in1 (.builtin "set.update.loop" ⟨[.ref s.heap.objs.size, .ref (s.heap.objs.size + 1)], []⟩) (fun r s' => r = .ok (.ret .none) ∧ ∃ h' tk, s' = { s with heap := h', toks := tk } ∧ N.R h' s.heap.objs.size (mors [] ks) ∧ (∀ b o, s.heap.get? b = some o → h'.get? b = some o)) s3 := by
        intro T s3 St wr fp G hfp hwr W hG e3 st ll
        refine upd_loop W s.heap.objs.size (fun z => (hfp _ z).elim (fun z => Nat.ne_of_lt (Nat.lt_succ_self _) z) fun z => Nat.ne_of_gt ll z) ks hn room (fun i v h => val i v h) (items.size - 0) 0 s3 (by omega) (Nat.zero_le _) st ?_ fun s' mv hN => ?_
        · rw [e3]
          exact N.fresh (Heap.get?_push_of_some _ atD)
        · obtain ⟨h', g', d', tk', os'⟩ := s'
          subst e3
          have eg : g' = s.gens := hG _ _ mv.gens
          have ed : d' = s.drawn := mv.drawn
          have eo : os' = s.os := mv.os
          subst eg; subst ed; subst eo
          refine ⟨rfl, h', tk', rfl, hN, fun b o e => ?_⟩
          have lb := Heap.lt_size e
          refine mv.heap b o (fun z => ?_) (Heap.get?_push_of_some _ (Heap.get?_push_of_some _ e))
          rcases List.mem_cons.mp z with z | z
          · exact Nat.ne_of_lt lb z
          · exact Nat.ne_of_lt (Nat.lt_succ_of_lt lb) (hwr b z)
      rcases hl with hl | hl
      · obtain ⟨ol, hol, hcl, nl, hdl⟩ := hl
        obtain ⟨ocls, odict, odata, oslots⟩ := ol
        simp only at hcl hdl
        subst hcl; subst hdl
        have ol' : (s.heap.push (setNew w)).get? l = some { cls := .type "list", dict := odict, data := .seq items nl, slots := oslots } := Heap.get?_push_of_some _ hol
        have sls := PySem.F.sub_list_set
        have slf := PySem.F.sub_list_frozenset
        have ndict : (Value.type "list" == Value.type "dict") = false := by decide
        have isl : (s.heap.push (setNew w)).IsList l items := ⟨_, ol', rfl, nl, rfl⟩
        have ll : l < s.heap.objs.size := Heap.lt_size hol
        unfold Builtin.«set.__init__» noKeywords Builtin.Frozenset.updateFrom
        generalize ePI : pyIter = PI
        wp_walk
        subst ePI
        refine wpAny_pyIter_list isl ?_
        rw [hz1]
        have nI : l ≠ s.heap.objs.size + 1 := Nat.ne_of_lt (Nat.lt_succ_of_lt ll)
        refine wpAny_bind (wpAny_runValue (codeAny_mono (rest (T := "list_iterator") (fun b hb => ?_) (fun b hb => ?_) ((Walks.list calm3 _ l nI items).toS) ?_ rfl ⟨⟨_, by rw [← hz1]; exact Heap.get?_push_size _ rfl, rfl, rfl⟩, isl.push _⟩ ll) fun r s' ⟨er, h', tk, es, hN, old⟩ => ?_))
        · simp only [List.mem_cons, List.not_mem_nil, or_false] at hb
          exact hb
        · exact List.mem_singleton.mp hb
        · exact fun a b h => h
        · subst er
          subst es
          refine wpAny_pure ?_
          show wpAny _ _ (ret Value.none) _ _ _
          exact wpAny_pure ⟨rfl, h', tk, rfl, hN, old⟩
      · obtain ⟨ol, hol, hcl, nl, hdl⟩ := hl
        obtain ⟨ocls, odict, odata, oslots⟩ := ol
        simp only at hcl hdl
        subst hcl; subst hdl
        have ol' : (s.heap.push (setNew w)).get? l = some { cls := .type "tuple", dict := odict, data := .seq items nl, slots := oslots } := Heap.get?_push_of_some _ hol
        have sls := PySem.F.sub_tuple_set
        have slf := PySem.F.sub_tuple_frozenset
        have ndict : (Value.type "tuple" == Value.type "dict") = false := by decide
        have isl : (s.heap.push (setNew w)).IsTuple l items := ⟨_, ol', rfl, nl, rfl⟩
        have ll : l < s.heap.objs.size := Heap.lt_size hol
        unfold Builtin.«set.__init__» noKeywords Builtin.Frozenset.updateFrom
        generalize ePI : pyIter = PI
        wp_walk
        subst ePI
        refine wpAny_pyIter_tuple isl ?_
        rw [hz1]
        have nI : l ≠ s.heap.objs.size + 1 := Nat.ne_of_lt (Nat.lt_succ_of_lt ll)
        refine wpAny_bind (wpAny_runValue (codeAny_mono (rest (T := "tuple_iterator") (fun b hb => ?_) (fun b hb => ?_) ((Walks.tuple calm3 _ l nI items).toS) ?_ rfl ⟨⟨_, by rw [← hz1]; exact Heap.get?_push_size _ rfl, rfl, rfl⟩, isl.push _⟩ ll) fun r s' ⟨er, h', tk, es, hN, old⟩ => ?_))
        · simp only [List.mem_cons, List.not_mem_nil, or_false] at hb
          exact hb
        · exact List.mem_singleton.mp hb
        · exact fun a b h => h
        · subst er
          subst es
          refine wpAny_pure ?_
          show wpAny _ _ (ret Value.none) _ _ _
          exact wpAny_pure ⟨rfl, h', tk, rfl, hN, old⟩
    · match r₂, hr₂ with
      | .error e, hr₂ => exact hr₂
      | .ok .next, hr₂ => exact hr₂.elim
      | .ok .brk, hr₂ => exact hr₂.elim
      | .ok .cont, hr₂ => exact hr₂.elim
      | .ok (.ret r), hr₂ =>
        obtain ⟨rfl, h', tk, rfl, hN, old⟩ := hr₂
        repeat (any_goals (first | assumption | wp_step))
        exact k _ _ hN old
end
end
end Z
set_option maxRecDepth 100000
set_option maxHeartbeats 4000000
namespace Z
open PySem PySem.Spec PyProof.Rows L2 PySem.Froz
section
variable {X : Cx} {κ : Type} [DecidableEq κ]
structure rSetOf {P : Program} {w : World} (N : SK P w κ) (K : PySem.W.Frag) (xs : List V) (H : Hp) (Q : VK) : Prop where
  h : ∃ a ks, xs = [.ref a] ∧ (SqL K H a (ks.map N.vv) ∨ SqT K H a (ks.map N.vv)) ∧ ks.length + 1 < scanBound ∧ ∀ p, H p = none → Q (.ref p) (upd H p (SetH N p (mors [] ks)))
theorem setOf {P : Program} {w : World} {N : SK P w κ} {K : PySem.W.Frag} {H : Hp} {Q : VK} {a : Addr} {ks : List κ} (h : SqL K H a (ks.map N.vv) ∨ SqT K H a (ks.map N.vv)) (few : ks.length + 1 < scanBound)
    (q : ∀ p H1, H p = none → Same H H1 → H1 p = some (SetH N p (mors [] ks)) → Q (.ref p) H1) : rSetOf N K [.ref a] H Q := ⟨a, ks, rfl, h, few, fun p np => q p _ np (sNew np) upd_same⟩
theorem vals_ks {P : Program} {w : World} {N : SK P w κ} {ks : List κ} {its : List Value} (r : Vals (ks.map N.vv) its) : ks.length = its.toArray.size ∧ ∀ (i : Nat) (v : Value), its.toArray[i]? = some v → ∃ k u, ks[i]? = some k ∧ v = N.mkv k u := by
  have hl := r.length
  rw [List.length_map] at hl
  refine ⟨by rw [List.size_toArray]; exact hl, fun i v hv => ?_⟩
  rw [List.getElem?_toArray] at hv
  have hi : i < ks.length := by rw [hl]; exact (List.getElem?_eq_some_iff.mp hv).1
  have g : (ks.map N.vv)[i]? = some (N.vv ks[i]) := by rw [List.getElem?_map, List.getElem?_eq_getElem hi]; rfl
  obtain ⟨u, z1, z2⟩ := r.get g
  rw [hv] at z1
  cases z1
  obtain ⟨t, e⟩ := N.rel z2
  exact ⟨ks[i], t, List.getElem?_eq_getElem hi, e⟩
theorem call_setOf {P : Program} {w : World} (N : SK P w κ) {K : PySem.W.Frag} (calm : X.calm = true) (hP : X.prog = P := by rfl) (hw : X.w = w := by rfl) (hK : X.K = K := by rfl) : CallR X (.type "set") (rSetOf N K) := by
  subst hP
  subst hw
  subst hK
  intro pins s σ H xs us Q I r h
  obtain ⟨a, ks, rfl, hs, few, q⟩ := h.h
  rw [Vals.ref1 r]
  have fin : ∀ {its : List Value}, Vals (ks.map N.vv) its → (s.heap.IsList a its.toArray ∨ s.heap.IsTuple a its.toArray) → wpAny (model X.prog X.w) X.A (call (.type "set") [.ref a]) (EP X pins σ Q) X.xe s := fun {its} rv hl => by
    obtain ⟨h1, h2⟩ := vals_ks rv
    refine set_from (N := N) (I.ok.hd calm) hl h1 h2 few fun h' tk hN old => ?_
    exact ⟨.ref _, upd H s.heap.objs.size (SetH N s.heap.objs.size (mors [] ks)), I.laid (t' := tk) old (Nat.le_refl _) (setH_new hN), rfl, q _ (I.hok.fresh (Nat.le_refl _))⟩
  rcases hs with hs | hs
  · obtain ⟨its, rv, pl, _⟩ := I.list hs
    exact fin rv (.inl pl.isList)
  · obtain ⟨its, rv, pl, _⟩ := I.tuple hs
    exact fin rv (.inr pl)
def rLenH {P : Program} {w : World} (N : SK P w κ) : List V → Hp → VK → Prop := fun xs H Q => ∃ a l, xs = [.ref a] ∧ H a = some (SetH N a l) ∧ Q (.int l.length) H
theorem call_lenH {P : Program} {w : World} (N : SK P w κ) (hP : X.prog = P := by rfl) (hw : X.w = w := by rfl) : CallR X (.builtin "len") (rLenH N) := by
  subst hP
  subst hw
  intro pins s σ H xs us Q I r ⟨a, l, e, ha, q⟩
  subst e
  rw [Vals.ref1 r]
  obtain ⟨o, es, ep, t, ho, hex, hd, hf, hn, hb⟩ := N.len (setH_get I ha)
  refine call_len_set ho hex hd hf (by unfold scanBound at hb; omega) ⟨.int l.length, H, I.tok _, ⟨_, by rw [hn]⟩, q⟩
end
section
variable {X : Cx}
theorem le_cover {α : Type} [DecidableEq α] : ∀ {l m : List α}, l.Nodup → (∀ y ∈ l, y ∈ m) → l.length ≤ m.length
  | [], _, _, _ => Nat.zero_le _
  | x :: l, m, nd, h => by
    obtain ⟨n1, n2⟩ := List.nodup_cons.mp nd
    have hx := h x List.mem_cons_self
    have ih := le_cover (m := m.erase x) n2 fun y hy => (List.mem_erase_of_ne (fun e => n1 (by rw [← e]; exact hy))).mpr (h y (List.mem_cons_of_mem _ hy))
    rw [List.length_erase_of_mem hx] at ih
    have : 0 < m.length := List.length_pos_of_mem hx
    show l.length + 1 ≤ _
    omega
theorem cover {α : Type} [DecidableEq α] : ∀ {l m : List α}, l.Nodup → (∀ y ∈ l, y ∈ m) → m.length ≤ l.length → m.Nodup
  | [], m, _, _, h => by
    have : m = [] := List.length_eq_zero_iff.mp (Nat.le_zero.mp h)
    rw [this]
    exact List.nodup_nil
  | x :: l, m, nd, h, hl => by
    obtain ⟨n1, n2⟩ := List.nodup_cons.mp nd
    have hx := h x List.mem_cons_self
    have sub : ∀ y ∈ l, y ∈ m.erase x := fun y hy => (List.mem_erase_of_ne (fun e => n1 (by rw [← e]; exact hy))).mpr (h y (List.mem_cons_of_mem _ hy))
    have len : (m.erase x).length ≤ l.length := by
      rw [List.length_erase_of_mem hx]
      have : m.length ≤ l.length + 1 := hl
      omega
    have ih := cover n2 sub len
    have nx : x ∉ m.erase x := fun hm => by
      have := le_cover nd (m := m.erase x) fun y hy => (List.mem_cons.mp hy).elim (fun e => by rw [e]; exact hm) (sub y)
      have : l.length + 1 ≤ (m.erase x).length := this
      omega
    exact (List.perm_cons_erase hx).nodup_iff.mpr (List.nodup_cons.mpr ⟨nx, ih⟩)
def rSortHS (P : Program) (w : World) : List V → Hp → VK → Prop := fun vs H Q => ∃ (a : Addr) (l : List PySem.Str), vs = [V.ref a] ∧ H a = some (SetH (strSK P w) a l) ∧ l.length < 64 ∧ ∀ p, H p = none → Q (.ref p) (upd H p (.lst ((ascS l).map V.str)))
def rSortHI (P : Program) (w : World) : List V → Hp → VK → Prop := fun vs H Q => ∃ (a : Addr) (l : List Int), vs = [V.ref a] ∧ H a = some (SetH (intSK P w) a l) ∧ l.length < 64 ∧ ∀ p, H p = none → Q (.ref p) (upd H p (.lst ((ascI l).map V.int)))
theorem strs_of : ∀ (l : List Value), (∀ v ∈ l, ∃ k tk, v = Value.str k tk) → ∃ ks, StrsAre l ks
  | [], _ => ⟨[], .nil⟩
  | v :: l, h => by
    obtain ⟨k, tk, rfl⟩ := h v List.mem_cons_self
    obtain ⟨ks, hk⟩ := strs_of l fun u hu => h u (List.mem_cons_of_mem _ hu)
    exact ⟨k :: ks, .cons k tk hk⟩
theorem strs_mem : ∀ {l : List Value} {ks : List PySem.Str}, StrsAre l ks → ∀ k, k ∈ ks ↔ ∃ t, Value.str k t ∈ l
  | _, _, .nil, k => by simp
  | _, _, .cons x t r, k => by
    rw [List.mem_cons, strs_mem r]
    constructor
    · rintro (rfl | ⟨u, h⟩)
      · exact ⟨t, List.mem_cons_self⟩
      · exact ⟨u, List.mem_cons_of_mem _ h⟩
    · rintro ⟨u, h⟩
      rcases List.mem_cons.mp h with e | h
      · cases e
        exact .inl rfl
      · exact .inr ⟨u, h⟩
theorem sort_setS {P : Program} {w : World} {A : Around} {E : Value → Shared → Prop} {s : Shared} {a : Addr} {l : List PySem.Str} {Q : Value → Shared → Prop} (R : SetS P w s.heap a l) (calm : A.handled = none) (few : l.length < 64)
    (k : ∀ s' p (out : Array Value) (c : Nat), (∀ b o, s.heap.get? b = some o → s'.heap.get? b = some o) → s'.gens = s.gens → s'.os = s.os → s.heap.objs.size ≤ p →
      s'.heap.get? p = some (seqObj "list" out c) → StrsAre out.toList (ascS l) → Q (.ref p) s') : wpAny (model P w) A (call (.builtin "sorted") [.ref a]) Q E s := by
  obtain ⟨⟨es, ep, t⟩, ho, F, nd, bl, ri, le⟩ := R
  have sz : es.size = l.length := F.sz
  have el : ElemsOf (PySem.strKind P w) es.toList := F.el
  refine Calls.call_function_entry kind_sorted plain_sorted entry_sorted (args_sorted1 _) ?_
  unfold Builtin.«sorted»
  refine wpAny_bind (m := checkCount "sorted" 1 1 _) (wpAny_pure ?_)
  refine wpAny_bind (collect_set (A := A.in1) calm ⟨_, ho, rfl, rfl⟩ F.fit (by rw [sz]; exact bl) ri le fun s1 vs k1 hz g1 o1 pm => ?_)
  have vl : vs.length = l.length := by rw [pm.length_eq, List.length_map, Array.length_toList]; exact sz
  have isS : ∀ v ∈ es.toList.map (·.2), ∃ k tk, v = Value.str k tk := fun v hv => by
    obtain ⟨e, he, rfl⟩ := List.mem_map.mp hv
    obtain ⟨⟨k, hk, _⟩, _⟩ := el e he
    obtain ⟨tk, h⟩ := Value.isStrOf_shape hk
    exact ⟨k, tk, h⟩
  obtain ⟨ks, hS⟩ := strs_of vs fun v hv => isS v (pm.mem_iff.mp hv)
  have kmem : ∀ y, y ∈ ks ↔ y ∈ l := fun y => by
    rw [strs_mem hS, F.mem y]
    constructor
    · rintro ⟨tk, h⟩
      obtain ⟨e, he, h2⟩ := List.mem_map.mp (pm.mem_iff.mp h)
      exact ⟨e, he, by rw [h2]; exact is_str y tk⟩
    · rintro ⟨e, he, h2⟩
      obtain ⟨tk, h⟩ := Value.isStrOf_shape h2
      exact ⟨tk, pm.mem_iff.mpr (List.mem_map.mpr ⟨e, he, h⟩)⟩
  have kl : ks.length = l.length := by rw [← hS.length]; exact vl
  have knd : ks.Nodup := by
    have sub : l ⊆ ks := fun y hy => (kmem y).mpr hy
    exact cover nd sub (Nat.le_of_eq kl)
  refine wpAny_bind (wpAny_newList ?_ (by rw [vl, sizeLine_eq]; omega))
  have hoL : (s1.heap.push (seqObj "list" vs.toArray 0)).get? s1.heap.objs.size = some (seqObj "list" vs.toArray 0) := Heap.get?_push_size _ rfl
  refine wpAny_bind (wpAny_holding (wpAny_call_entry slot_list_sort ⟨_, hoL, rfl⟩ entry_list_sort (list_sort_treeK strKind_oneLt hoL hS.keysOf (fun v₁ v₂ rest e => keyKind_strs (by rw [← e]; exact hS)) (by rw [vl]; exact few) fun st' hp hs => ?_) (args_list_sort _)))
  obtain ⟨ys, y1, y2, y3⟩ := sorted_out_str hS hp hs
  have ey : ys = ascS l := sorted_asc y3 (y2.nodup_iff.mpr knd) fun y => by rw [y2.mem_iff, kmem]
  subst ey
  refine ⟨_, rfl, ?_⟩
  obtain ⟨c, hc⟩ := sortedHeap_at (vs := vs) (out := (arrOf st').map (·.2)) hoL
  refine wpAny_pure ⟨_, rfl, k _ s1.heap.objs.size _ c (fun b u e => ?_) g1 o1 hz hc y1⟩
  have q := k1 b u e
  have lt := Heap.lt_size q
  show (sortedHeap (s1.heap.push (seqObj "list" vs.toArray 0)) s1.heap.objs.size vs ((arrOf st').map (·.2))).get? b = some u
  rw [sortedHeap_old (Nat.ne_of_lt lt) (by rw [size_push']; exact Nat.lt_succ_of_lt lt)]
  exact Heap.get?_push_of_some _ q
theorem call_sortHS {P : Program} {w : World} (calm : X.calm = true) (hP : X.prog = P := by rfl) (hw : X.w = w := by rfl) : CallR X (.builtin "sorted") (rSortHS P w) := by
  subst hP
  subst hw
  intro pins s σ H vs us Q I r ⟨a, l, e, ha, few, q⟩
  subst e
  rw [Vals.ref1 r]
  refine sort_setS (setH_get I ha) (I.ok.hd calm) few fun s' p out c k g o hp hg hi => ?_
  have hlen : ((ascS l).map V.str).length ≤ sizeLine := by
    have : (ascS l).length ≤ l.length := Ord.len_asc
    rw [List.length_map, sizeLine_eq]
    omega
  have hn : H p = none := I.hok.fresh hp
  have J : Inv X pins σ (upd H p (.lst ((ascS l).map V.str))) { s with heap := s'.heap, gens := s'.gens, drawn := s'.drawn, toks := s'.toks } :=
    I.call (ch := []) (Un.laid k hp hn) (I.hok.laid k hp ⟨hlen, out.toList, c, vals_of_strs hi, hg⟩) (by rw [g]; exact I.bare) (fun _ z => nomatch z)
  have e : s' = { s with heap := s'.heap, gens := s'.gens, drawn := s'.drawn, toks := s'.toks } := by
    cases s'
    cases s
    cases o
    rfl
  rw [e]
  exact ⟨.ref p, _, J, rfl, q p hn⟩
theorem call_sortHI {P : Program} {w : World} (calm : X.calm = true) (hP : X.prog = P := by rfl) (hw : X.w = w := by rfl) : CallR X (.builtin "sorted") (rSortHI P w) := by
  subst hP
  subst hw
  intro pins s σ H vs us Q I r ⟨a, l, e, ha, few, q⟩
  subst e
  rw [Vals.ref1 r]
  have R : (intSK X.prog X.w).R s.heap a l := setH_get I ha
  refine sorted_set R.2 (I.ok.hd calm) few fun s' p out c ns k g o hp hg hi hs hm hl => ?_
  have en : ns = ascI l := ints_asc hs fun y => by rw [hm, decide_eq_true_eq]
  subst en
  have hlen : ((ascI l).map V.int).length ≤ sizeLine := by rw [List.length_map, hl, sizeLine_eq]; omega
  have hn : H p = none := I.hok.fresh hp
  have J : Inv X pins σ (upd H p (.lst ((ascI l).map V.int))) { s with heap := s'.heap, gens := s'.gens, drawn := s'.drawn, toks := s'.toks } :=
    I.call (ch := []) (Un.laid k hp hn) (I.hok.laid k hp ⟨hlen, out.toList, c, vals_of_ints hi, hg⟩) (by rw [g]; exact I.bare) (fun _ z => nomatch z)
  have e : s' = { s with heap := s'.heap, gens := s'.gens, drawn := s'.drawn, toks := s'.toks } := by
    cases s'
    cases s
    cases o
    rfl
  rw [e]
  exact ⟨.ref p, _, J, rfl, q p hn⟩
end
end Z
set_option maxRecDepth 100000
set_option maxHeartbeats 4000000
namespace Z
open PySem PySem.Spec PyProof.Rows L2
def topS (i : Nat) : Stmt := PySem.Challenge.pw_tiedsteps_k03_whole_values_of_terms.main.body.getD i (.Pass ⟨0, 0, 0, 0⟩)
abbrev s_is_whole : Stmt := topS 9
theorem sc_is_whole : FnScope ["value"] ["value"] (defScope s_is_whole) := ⟨rfl, rfl, rfl, by decide +kernel, rfl, by decide +kernel, by decide +kernel⟩
abbrev s_is_number : Stmt := topS 10
theorem sc_is_number : FnScope ["value", "low", "high"] ["value", "low", "high"] (defScope s_is_number) := ⟨rfl, rfl, rfl, by decide +kernel, rfl, by decide +kernel, by decide +kernel⟩
abbrev s_is_word : Stmt := topS 11
theorem sc_is_word : FnScope ["value", "sign"] ["value"] (defScope s_is_word) := ⟨rfl, rfl, rfl, by decide +kernel, rfl, by decide +kernel, by decide +kernel⟩
abbrev s_is_digit : Stmt := topS 12
theorem sc_is_digit : FnScope ["value"] ["value"] (defScope s_is_digit) := ⟨rfl, rfl, rfl, by decide +kernel, rfl, by decide +kernel, by decide +kernel⟩
abbrev s_ascending_words : Stmt := topS 13
theorem sc_ascending_words : FnScope ["words", "word"] ["words"] (defScope s_ascending_words) := ⟨rfl, rfl, rfl, by decide +kernel, rfl, by decide +kernel, by decide +kernel⟩
abbrev s_ascending_numbers : Stmt := topS 14
theorem sc_ascending_numbers : FnScope ["numbers", "number"] ["numbers"] (defScope s_ascending_numbers) := ⟨rfl, rfl, rfl, by decide +kernel, rfl, by decide +kernel, by decide +kernel⟩
abbrev s_word_at : Stmt := topS 19
theorem sc_word_at : FnScope ["text", "at", "last"] ["text", "at"] (defScope s_word_at) := ⟨rfl, rfl, rfl, by decide +kernel, rfl, by decide +kernel, by decide +kernel⟩
abbrev s_plan_at : Stmt := topS 20
theorem sc_plan_at : FnScope ["text", "at", "deep", "word", "parts", "sign", "found", "part"] ["text", "at", "deep"] (defScope s_plan_at) := ⟨rfl, rfl, rfl, by decide +kernel, rfl, by decide +kernel, by decide +kernel⟩
abbrev s_text_of : Stmt := topS 22
theorem sc_text_of : FnScope ["plan", "one", "other", "same", "unlike", "part"] ["plan"] (defScope s_text_of) := ⟨rfl, rfl, rfl, by decide +kernel, rfl, by decide +kernel, by decide +kernel⟩
abbrev s_leaves_of : Stmt := topS 23
theorem sc_leaves_of : FnScope ["plan", "found", "part"] ["plan"] (defScope s_leaves_of) := ⟨rfl, rfl, rfl, by decide +kernel, rfl, by decide +kernel, by decide +kernel⟩
abbrev s_value_of : Stmt := topS 24
theorem sc_value_of : FnScope ["plan", "values", "one", "other", "same", "unlike"] ["plan", "values"] (defScope s_value_of) := ⟨rfl, rfl, rfl, by decide +kernel, rfl, by decide +kernel, by decide +kernel⟩
abbrev s_stands_in : Stmt := topS 25
theorem sc_stands_in : FnScope ["plan", "whole", "part"] ["plan", "whole"] (defScope s_stands_in) := ⟨rfl, rfl, rfl, by decide +kernel, rfl, by decide +kernel, by decide +kernel⟩
abbrev s_plan_of : Stmt := topS 26
theorem sc_plan_of : FnScope ["value", "found"] ["value"] (defScope s_plan_of) := ⟨rfl, rfl, rfl, by decide +kernel, rfl, by decide +kernel, by decide +kernel⟩
abbrev s_Term___init__ : Stmt := inClass (topS 27) 0
theorem sc_Term___init__ : FnScope ["self", "value", "plan"] ["self", "value"] (defScope s_Term___init__) := ⟨rfl, rfl, rfl, by decide +kernel, rfl, by decide +kernel, by decide +kernel⟩
abbrev s_Term_choice : Stmt := inClass (topS 27) 1
theorem sc_Term_choice : FnScope ["one", "other", "same", "unlike", "plans", "value", "plan"] ["one", "other", "same", "unlike"] (defScope s_Term_choice) := ⟨rfl, rfl, rfl, by decide +kernel, rfl, by decide +kernel, by decide +kernel⟩
abbrev s_Term___str__ : Stmt := inClass (topS 27) 2
theorem sc_Term___str__ : FnScope ["self"] ["self"] (defScope s_Term___str__) := ⟨rfl, rfl, rfl, by decide +kernel, rfl, by decide +kernel, by decide +kernel⟩
abbrev s_Term_variables : Stmt := inClass (topS 27) 5
theorem sc_Term_variables : FnScope ["self", "leaf"] ["self"] (defScope s_Term_variables) := ⟨rfl, rfl, rfl, by decide +kernel, rfl, by decide +kernel, by decide +kernel⟩
abbrev s_Term_constants : Stmt := inClass (topS 27) 6
theorem sc_Term_constants : FnScope ["self", "leaf"] ["self"] (defScope s_Term_constants) := ⟨rfl, rfl, rfl, by decide +kernel, rfl, by decide +kernel, by decide +kernel⟩
abbrev s_Term_parts : Stmt := inClass (topS 27) 7
theorem sc_Term_parts : FnScope ["self", "part"] ["self"] (defScope s_Term_parts) := ⟨rfl, rfl, rfl, by decide +kernel, rfl, by decide +kernel, by decide +kernel⟩
abbrev s_Term___call__ : Stmt := inClass (topS 27) 8
theorem sc_Term___call__ : FnScope ["self", "values", "name"] ["self", "values"] (defScope s_Term___call__) := ⟨rfl, rfl, rfl, by decide +kernel, rfl, by decide +kernel, by decide +kernel⟩
abbrev s_Term___eq__ : Stmt := inClass (topS 27) 12
theorem sc_Term___eq__ : FnScope ["self", "other"] ["self", "other"] (defScope s_Term___eq__) := ⟨rfl, rfl, rfl, by decide +kernel, rfl, by decide +kernel, by decide +kernel⟩
abbrev s_Term_within : Stmt := inClass (topS 27) 13
theorem sc_Term_within : FnScope ["self", "other"] ["self", "other"] (defScope s_Term_within) := ⟨rfl, rfl, rfl, by decide +kernel, rfl, by decide +kernel, by decide +kernel⟩
abbrev s__law_pool : Stmt := topS 29
theorem sc__law_pool : FnScope ["script", "k", "cell", "size", "mixed"] ["script", "k"] (defScope s__law_pool) := ⟨rfl, rfl, rfl, by decide +kernel, rfl, by decide +kernel, by decide +kernel⟩
abbrev s__law_take : Stmt := topS 30
theorem sc__law_take : FnScope ["pool", "bound", "result"] ["pool", "bound"] (defScope s__law_take) := ⟨rfl, rfl, rfl, by decide +kernel, rfl, by decide +kernel, by decide +kernel⟩
abbrev s__law_one : Stmt := topS 31
theorem sc__law_one : FnScope ["pool", "things"] ["pool", "things"] (defScope s__law_one) := ⟨rfl, rfl, rfl, by decide +kernel, rfl, by decide +kernel, by decide +kernel⟩
abbrev s__law_part : Stmt := topS 32
theorem sc__law_part : FnScope ["pool", "things", "thing"] ["pool", "things"] (defScope s__law_part) := ⟨rfl, rfl, rfl, by decide +kernel, rfl, by decide +kernel, by decide +kernel⟩
abbrev s__law_words : Stmt := topS 33
theorem sc__law_words : FnScope ["pool", "bound", "letters", "first", "stride", "head", "tail", "turn", "spot"] ["pool", "bound"] (defScope s__law_words) := ⟨rfl, rfl, rfl, by decide +kernel, rfl, by decide +kernel, by decide +kernel⟩
abbrev s__law_tree : Stmt := topS 34
theorem sc__law_tree : FnScope ["pool", "words", "digits", "deep", "part"] ["pool", "words", "digits", "deep"] (defScope s__law_tree) := ⟨rfl, rfl, rfl, by decide +kernel, rfl, by decide +kernel, by decide +kernel⟩
abbrev s__law_tree_text : Stmt := topS 35
theorem sc__law_tree_text : FnScope ["tree", "near", "far", "yes", "no", "part"] ["tree"] (defScope s__law_tree_text) := ⟨rfl, rfl, rfl, by decide +kernel, rfl, by decide +kernel, by decide +kernel⟩
abbrev s__law_tree_leaves : Stmt := topS 36
theorem sc__law_tree_leaves : FnScope ["tree", "found", "part"] ["tree"] (defScope s__law_tree_leaves) := ⟨rfl, rfl, rfl, by decide +kernel, rfl, by decide +kernel, by decide +kernel⟩
abbrev s__law_tree_words : Stmt := topS 37
theorem sc__law_tree_words : FnScope ["tree", "leaf"] ["tree"] (defScope s__law_tree_words) := ⟨rfl, rfl, rfl, by decide +kernel, rfl, by decide +kernel, by decide +kernel⟩
abbrev s__law_tree_digits : Stmt := topS 38
theorem sc__law_tree_digits : FnScope ["tree", "leaf"] ["tree"] (defScope s__law_tree_digits) := ⟨rfl, rfl, rfl, by decide +kernel, rfl, by decide +kernel, by decide +kernel⟩
abbrev s__law_tree_worth : Stmt := topS 39
theorem sc__law_tree_worth : FnScope ["tree", "held", "near", "far"] ["tree", "held"] (defScope s__law_tree_worth) := ⟨rfl, rfl, rfl, by decide +kernel, rfl, by decide +kernel, by decide +kernel⟩
abbrev s__law_told : Stmt := topS 40
theorem sc__law_told : FnScope ["term", "held", "e"] ["term", "held"] (defScope s__law_told) := ⟨rfl, rfl, rfl, by decide +kernel, rfl, by decide +kernel, by decide +kernel⟩
abbrev s__law_due : Stmt := topS 41
theorem sc__law_due : FnScope ["tree", "held", "word"] ["tree", "held"] (defScope s__law_due) := ⟨rfl, rfl, rfl, by decide +kernel, rfl, by decide +kernel, by decide +kernel⟩
abbrev s__law_moved_right : Stmt := topS 42
theorem sc__law_moved_right : FnScope ["tree", "held", "digits", "others", "word", "moved", "worth"] ["tree", "held", "digits"] (defScope s__law_moved_right) := ⟨rfl, rfl, rfl, by decide +kernel, rfl, by decide +kernel, by decide +kernel⟩
abbrev s_law : Stmt := topS 43
theorem sc_law : FnScope ["script", "k", "pool", "words", "menu", "held", "turn", "tree", "term", "first", "less", "odd", "more", "some", "thing", "word"] ["script"] (defScope s_law) := ⟨rfl, rfl, rfl, by decide +kernel, rfl, by decide +kernel, by decide +kernel⟩
structure Ad where
  C_TiedError : Addr
  C_NoTerm : Addr
  i_NoTerm : Addr
  C_NoName : Addr
  i_NoName : Addr
  f_is_whole : Addr
  d_is_whole : FuncData
  f_is_number : Addr
  d_is_number : FuncData
  f_is_word : Addr
  d_is_word : FuncData
  f_is_digit : Addr
  d_is_digit : FuncData
  f_ascending_words : Addr
  d_ascending_words : FuncData
  f_ascending_numbers : Addr
  d_ascending_numbers : FuncData
  v_SIGNS : Addr
  f_word_at : Addr
  d_word_at : FuncData
  f_plan_at : Addr
  d_plan_at : FuncData
  f_text_of : Addr
  d_text_of : FuncData
  f_leaves_of : Addr
  d_leaves_of : FuncData
  f_value_of : Addr
  d_value_of : FuncData
  f_stands_in : Addr
  d_stands_in : FuncData
  f_plan_of : Addr
  d_plan_of : FuncData
  C_Term : Addr
  f_Term___init__ : Addr
  d_Term___init__ : FuncData
  f_Term_choice : Addr
  d_Term_choice : FuncData
  p_Term_choice : Addr
  f_Term___str__ : Addr
  d_Term___str__ : FuncData
  f_Term_variables : Addr
  d_Term_variables : FuncData
  f_Term_constants : Addr
  d_Term_constants : FuncData
  f_Term_parts : Addr
  d_Term_parts : FuncData
  f_Term___call__ : Addr
  d_Term___call__ : FuncData
  f_Term___eq__ : Addr
  d_Term___eq__ : FuncData
  f_Term_within : Addr
  d_Term_within : FuncData
  f__law_pool : Addr
  d__law_pool : FuncData
  f__law_take : Addr
  d__law_take : FuncData
  f__law_one : Addr
  d__law_one : FuncData
  f__law_part : Addr
  d__law_part : FuncData
  f__law_words : Addr
  d__law_words : FuncData
  f__law_tree : Addr
  d__law_tree : FuncData
  f__law_tree_text : Addr
  d__law_tree_text : FuncData
  f__law_tree_leaves : Addr
  d__law_tree_leaves : FuncData
  f__law_tree_words : Addr
  d__law_tree_words : FuncData
  f__law_tree_digits : Addr
  d__law_tree_digits : FuncData
  f__law_tree_worth : Addr
  d__law_tree_worth : FuncData
  f__law_told : Addr
  d__law_told : FuncData
  f__law_due : Addr
  d__law_due : FuncData
  f__law_moved_right : Addr
  d__law_moved_right : FuncData
  f_law : Addr
  d_law : FuncData
structure Tx (P : Program) (K : PySem.W.Frag) (mg : Str → Option Value) (a : Ad) : Prop where
  g_TiedError : mg "TiedError" = some (.ref a.C_TiedError)
  te_NoTerm : PySem.W.exmOne K (.ref a.C_NoTerm) (.ref a.C_NoTerm) = some true
  kb_NoTerm_TiedError : PySem.W.kitOne K (.ref a.C_NoTerm) (.ref a.C_TiedError) = some true
  e_NoTerm : Tied P K mg "NoTerm" "value" "NoTerm.__init__" a.C_NoTerm a.i_NoTerm
  te_NoName : PySem.W.exmOne K (.ref a.C_NoName) (.ref a.C_NoName) = some true
  kr_NoName : PySem.W.kitOne K (.ref a.C_NoName) (.type "KeyError") = some true
  b_KeyError : mg "KeyError" = none
  e_NoName : TiedK "KeyError" [.type "KeyError", .type "LookupError", .type "Exception", .type "BaseException", .type "object"] "LookupError.__new__" "KeyError.__init__" P K mg "NoName" "who" "NoName.__init__" a.C_NoName a.i_NoName
  v_LETTERS : ∃ t, mg "LETTERS" = some (.str "abcdefghijklmnopqrstuvwxyz" t)
  v_DIGITS : ∃ t, mg "DIGITS" = some (.str "0123456789" t)
  v_MOST_LETTERS : ∃ t, mg "MOST_LETTERS" = some (.int 8 t)
  is_whole : Df K mg "is_whole" s_is_whole ["value"] a.f_is_whole a.d_is_whole
  is_number : Df K mg "is_number" s_is_number ["value", "low", "high"] a.f_is_number a.d_is_number
  is_word : Df K mg "is_word" s_is_word ["value"] a.f_is_word a.d_is_word
  is_digit : Df K mg "is_digit" s_is_digit ["value"] a.f_is_digit a.d_is_digit
  ascending_words : Df K mg "ascending_words" s_ascending_words ["words"] a.f_ascending_words a.d_ascending_words
  ascending_numbers : Df K mg "ascending_numbers" s_ascending_numbers ["numbers"] a.f_ascending_numbers a.d_ascending_numbers
  v_MOST_DEPTH : ∃ t, mg "MOST_DEPTH" = some (.int 3 t)
  v_MOST_CONSTANT : ∃ t, mg "MOST_CONSTANT" = some (.int 9 t)
  v_SIGNS : mg "SIGNS" = some (.ref a.v_SIGNS)
  w_SIGNS : ∀ H : Hp, SqT K H a.v_SIGNS [.str "(", .str "=", .str "?", .str ":", .str ")"]
  word_at : Df K mg "word_at" s_word_at ["text", "at"] a.f_word_at a.d_word_at
  plan_at : Df K mg "plan_at" s_plan_at ["text", "at", "deep"] a.f_plan_at a.d_plan_at
  text_of : Df K mg "text_of" s_text_of ["plan"] a.f_text_of a.d_text_of
  leaves_of : Df K mg "leaves_of" s_leaves_of ["plan"] a.f_leaves_of a.d_leaves_of
  value_of : Df K mg "value_of" s_value_of ["plan", "values"] a.f_value_of a.d_value_of
  stands_in : Df K mg "stands_in" s_stands_in ["plan", "whole"] a.f_stands_in a.d_stands_in
  plan_of : Df K mg "plan_of" s_plan_of ["value"] a.f_plan_of a.d_plan_of
  g_Term : mg "Term" = some (.ref a.C_Term)
  c_Term : Cls K a.C_Term
  kp_Term : PySem.W.keepIn K (.ref a.C_Term) = true
  ty_Term : PySem.W.findIn K (.ref a.C_Term) "__class__" = some (some (.builtin "object.__class__"))
  mo_Term : PySem.W.mroIn K a.C_Term (.type "object") = some true
  kit_Term_NoneType : PySem.W.kitOne K (.type "NoneType") (.ref a.C_Term) = some false
  kit_Term_bool : PySem.W.kitOne K (.type "bool") (.ref a.C_Term) = some false
  kit_Term_int : PySem.W.kitOne K (.type "int") (.ref a.C_Term) = some false
  kit_Term_str : PySem.W.kitOne K (.type "str") (.ref a.C_Term) = some false
  kit_Term_list : PySem.W.kitOne K (.type "list") (.ref a.C_Term) = some false
  kit_Term_tuple : PySem.W.kitOne K (.type "tuple") (.ref a.C_Term) = some false
  kit_Term_dict : PySem.W.kitOne K (.type "dict") (.ref a.C_Term) = some false
  kik_Term_list : PySem.W.kitOne K (.ref a.C_Term) (.type "list") = some false
  kik_Term_tuple : PySem.W.kitOne K (.ref a.C_Term) (.type "tuple") = some false
  kik_Term_str : PySem.W.kitOne K (.ref a.C_Term) (.type "str") = some false
  kit_Term : PySem.W.kitOne K (.ref a.C_Term) (.ref a.C_Term) = some true
  Term___init__ : Fun K "__init__" "Term.__init__" s_Term___init__ a.f_Term___init__ a.d_Term___init__
  b_Term___init__ : Binds K a.d_Term___init__ ["self", "value"] []
  mk_Term : Mk K a.C_Term a.f_Term___init__
  Term_choice : Fun K "choice" "Term.choice" s_Term_choice a.f_Term_choice a.d_Term_choice
  b_Term_choice : Binds K a.d_Term_choice ["one", "other", "same", "unlike"] []
  m_Term_choice : CSta K a.C_Term (.type "type") "choice" a.p_Term_choice a.f_Term_choice
  Term___str__ : Fun K "__str__" "Term.__str__" s_Term___str__ a.f_Term___str__ a.d_Term___str__
  b_Term___str__ : Binds K a.d_Term___str__ ["self"] []
  m_Term___str__ : Meth K a.C_Term "__str__" a.f_Term___str__
  fm_Term : PySem.W.findIn K (.ref a.C_Term) "__format__" = some (some (.builtin "object.__format__"))
  Term_variables : Fun K "variables" "Term.variables" s_Term_variables a.f_Term_variables a.d_Term_variables
  b_Term_variables : Binds K a.d_Term_variables ["self"] []
  m_Term_variables : Meth K a.C_Term "variables" a.f_Term_variables
  Term_constants : Fun K "constants" "Term.constants" s_Term_constants a.f_Term_constants a.d_Term_constants
  b_Term_constants : Binds K a.d_Term_constants ["self"] []
  m_Term_constants : Meth K a.C_Term "constants" a.f_Term_constants
  Term_parts : Fun K "parts" "Term.parts" s_Term_parts a.f_Term_parts a.d_Term_parts
  b_Term_parts : Binds K a.d_Term_parts ["self"] []
  m_Term_parts : Meth K a.C_Term "parts" a.f_Term_parts
  Term___call__ : Fun K "__call__" "Term.__call__" s_Term___call__ a.f_Term___call__ a.d_Term___call__
  b_Term___call__ : Binds K a.d_Term___call__ ["self", "values"] []
  m_Term___call__ : Meth K a.C_Term "__call__" a.f_Term___call__
  o_Term___call__ : PySem.W.fnIn K a.f_Term___call__ = true
  Term___eq__ : Fun K "__eq__" "Term.__eq__" s_Term___eq__ a.f_Term___eq__ a.d_Term___eq__
  b_Term___eq__ : Binds K a.d_Term___eq__ ["self", "other"] []
  m_Term___eq__ : Meth K a.C_Term "__eq__" a.f_Term___eq__
  nx_Term_int : PySem.W.notFirst K a.C_Term (.type "int") = true
  nx_Term_tuple : PySem.W.notFirst K a.C_Term (.type "tuple") = true
  nx_Term_NoneType : PySem.W.notFirst K a.C_Term (.type "NoneType") = true
  nx_Term_bool : PySem.W.notFirst K a.C_Term (.type "bool") = true
  nx_Term_list : PySem.W.notFirst K a.C_Term (.type "list") = true
  nx_Term_dict : PySem.W.notFirst K a.C_Term (.type "dict") = true
  nf_Term : PySem.W.notFirst K a.C_Term (.type "str") = true
  ne_Term : PySem.W.findIn K (.ref a.C_Term) "__ne__" = some (some (.builtin "object.__ne__"))
  Term_within : Fun K "within" "Term.within" s_Term_within a.f_Term_within a.d_Term_within
  b_Term_within : Binds K a.d_Term_within ["self", "other"] []
  m_Term_within : Meth K a.C_Term "within" a.f_Term_within
  no_Term_tree : NoAttr K a.C_Term "tree"
  _law_pool : Df K mg "_law_pool" s__law_pool ["script", "k"] a.f__law_pool a.d__law_pool
  _law_take : Df K mg "_law_take" s__law_take ["pool", "bound"] a.f__law_take a.d__law_take
  _law_one : Df K mg "_law_one" s__law_one ["pool", "things"] a.f__law_one a.d__law_one
  _law_part : Df K mg "_law_part" s__law_part ["pool", "things"] a.f__law_part a.d__law_part
  _law_words : Df K mg "_law_words" s__law_words ["pool", "bound"] a.f__law_words a.d__law_words
  _law_tree : Df K mg "_law_tree" s__law_tree ["pool", "words", "digits", "deep"] a.f__law_tree a.d__law_tree
  _law_tree_text : Df K mg "_law_tree_text" s__law_tree_text ["tree"] a.f__law_tree_text a.d__law_tree_text
  _law_tree_leaves : Df K mg "_law_tree_leaves" s__law_tree_leaves ["tree"] a.f__law_tree_leaves a.d__law_tree_leaves
  _law_tree_words : Df K mg "_law_tree_words" s__law_tree_words ["tree"] a.f__law_tree_words a.d__law_tree_words
  _law_tree_digits : Df K mg "_law_tree_digits" s__law_tree_digits ["tree"] a.f__law_tree_digits a.d__law_tree_digits
  _law_tree_worth : Df K mg "_law_tree_worth" s__law_tree_worth ["tree", "held"] a.f__law_tree_worth a.d__law_tree_worth
  _law_told : Df K mg "_law_told" s__law_told ["term", "held"] a.f__law_told a.d__law_told
  _law_due : Df K mg "_law_due" s__law_due ["tree", "held"] a.f__law_due a.d__law_due
  _law_moved_right : Df K mg "_law_moved_right" s__law_moved_right ["tree", "held", "digits"] a.f__law_moved_right a.d__law_moved_right
  law : Df K mg "law" s_law ["script"] a.f_law a.d_law
  blaw : ∀ (s : Shared) (u : Value), BindsTo s a.d_law ⟨[u], []⟩ [("script", u)]
  tq_NoName_NoTerm : PySem.W.exmOne K (.ref a.C_NoName) (.ref a.C_NoTerm) = some false
  tq_NoTerm_NoName : PySem.W.exmOne K (.ref a.C_NoTerm) (.ref a.C_NoName) = some false
  ki_NoName_TiedError : PySem.W.kitOne K (.ref a.C_NoName) (.ref a.C_TiedError) = some false
  ki_TiedError_TiedError : PySem.W.kitOne K (.ref a.C_TiedError) (.ref a.C_TiedError) = some true
  xc_NoName : PySem.W.findIn K (.ref a.C_NoName) "__class__" = some (some (.builtin "object.__class__"))
  xm_NoName : PySem.W.mroIn K a.C_NoName (.type "object") = some true
  xi_NoName : (PySem.W.clsIn K a.C_NoName).isSome = true
  xc_NoTerm : PySem.W.findIn K (.ref a.C_NoTerm) "__class__" = some (some (.builtin "object.__class__"))
  xm_NoTerm : PySem.W.mroIn K a.C_NoTerm (.type "object") = some true
  xi_NoTerm : (PySem.W.clsIn K a.C_NoTerm).isSome = true
  bi : Bi mg
  tn : PySem.W.specialIn K (.builtin "object.__class__") "__get__" = some (some (.builtin "getset_descriptor.__get__"))
  tt : PySem.W.takesIn K (.builtin "object.__class__") = some true
theorem tx_mk {P : Program} {K : PySem.W.Frag} {h : Heap} {mg : Str → Option Value} (X : K.In h) (G : h.Ns mainGlobals mg)
    {C_TiedError : Addr}
    {C_NoTerm N_NoTerm i_NoTerm : Addr} {nm_NoTerm q_NoTerm : Str} {bs_NoTerm bm_NoTerm su_NoTerm : List Value} {sn_NoTerm : List Str} {ab_NoTerm : Bool} {co_NoTerm : Option Bool} {dd_NoTerm : Option Addr} {k0_NoTerm k1_NoTerm k2_NoTerm k3_NoTerm k5_NoTerm : Option Value} {oc_NoTerm kV_NoTerm dc_NoTerm pm_NoTerm ct_NoTerm : Value} {od_NoTerm an_NoTerm : Option Addr} {cda_NoTerm cc_NoTerm : Addr} {sl_NoTerm : Array (Option Value)} {m_NoTerm : Str} {j_NoTerm : Nat} {p1_NoTerm p2_NoTerm q0_NoTerm q1_NoTerm q2_NoTerm q3_NoTerm q4_NoTerm q5_NoTerm r1_NoTerm r2_NoTerm r3_NoTerm r4_NoTerm : Pos} {ccl_NoTerm cl_NoTerm : Value} {cdd_NoTerm cld_NoTerm : Option Addr} {vs_NoTerm : Array Value} {ccs_NoTerm csl_NoTerm : Array (Option Value)} {file_NoTerm : Str} {tf_NoTerm : Tok}
    {C_NoName N_NoName i_NoName : Addr} {nm_NoName q_NoName : Str} {bs_NoName su_NoName : List Value} {sn_NoName : List Str} {ab_NoName : Bool} {co_NoName : Option Bool} {dd_NoName : Option Addr} {k0_NoName k1_NoName k2_NoName k3_NoName k5_NoName : Option Value} {oc_NoName kV_NoName dc_NoName pm_NoName ct_NoName : Value} {od_NoName an_NoName : Option Addr} {cda_NoName cc_NoName : Addr} {sl_NoName : Array (Option Value)} {m_NoName : Str} {j_NoName : Nat} {p1_NoName p2_NoName q0_NoName q1_NoName q2_NoName q3_NoName q4_NoName q5_NoName r1_NoName r2_NoName r3_NoName r4_NoName : Pos} {ccl_NoName cl_NoName : Value} {cdd_NoName cld_NoName : Option Addr} {vs_NoName : Array Value} {ccs_NoName csl_NoName : Array (Option Value)} {file_NoName : Str} {tf_NoName : Tok}
    {t_LETTERS : Tok}
    {t_DIGITS : Tok}
    {t_MOST_LETTERS : Tok}
    {f_is_whole : Addr} {od_is_whole an_is_whole : Option Addr} {sl_is_whole : Array (Option Value)} {oc_is_whole kV_is_whole dc_is_whole pm_is_whole cd_is_whole ct_is_whole : Value}
    {f_is_number : Addr} {od_is_number an_is_number : Option Addr} {sl_is_number : Array (Option Value)} {oc_is_number kV_is_number dc_is_number pm_is_number cd_is_number ct_is_number : Value}
    {f_is_word : Addr} {od_is_word an_is_word : Option Addr} {sl_is_word : Array (Option Value)} {oc_is_word kV_is_word dc_is_word pm_is_word cd_is_word ct_is_word : Value}
    {f_is_digit : Addr} {od_is_digit an_is_digit : Option Addr} {sl_is_digit : Array (Option Value)} {oc_is_digit kV_is_digit dc_is_digit pm_is_digit cd_is_digit ct_is_digit : Value}
    {f_ascending_words : Addr} {od_ascending_words an_ascending_words : Option Addr} {sl_ascending_words : Array (Option Value)} {oc_ascending_words kV_ascending_words dc_ascending_words pm_ascending_words cd_ascending_words ct_ascending_words : Value}
    {f_ascending_numbers : Addr} {od_ascending_numbers an_ascending_numbers : Option Addr} {sl_ascending_numbers : Array (Option Value)} {oc_ascending_numbers kV_ascending_numbers dc_ascending_numbers pm_ascending_numbers cd_ascending_numbers ct_ascending_numbers : Value}
    {t_MOST_DEPTH : Tok}
    {t_MOST_CONSTANT : Tok}
    {v_SIGNS : Addr} {t0_SIGNS t1_SIGNS t2_SIGNS t3_SIGNS t4_SIGNS : Tok} {dd_SIGNS : Option Addr} {n_SIGNS : Nat} {sl_SIGNS : Array (Option Value)}
    {f_word_at : Addr} {od_word_at an_word_at : Option Addr} {sl_word_at : Array (Option Value)} {oc_word_at kV_word_at dc_word_at pm_word_at cd_word_at ct_word_at : Value}
    {f_plan_at : Addr} {od_plan_at an_plan_at : Option Addr} {sl_plan_at : Array (Option Value)} {oc_plan_at kV_plan_at dc_plan_at pm_plan_at cd_plan_at ct_plan_at : Value}
    {f_text_of : Addr} {od_text_of an_text_of : Option Addr} {sl_text_of : Array (Option Value)} {oc_text_of kV_text_of dc_text_of pm_text_of cd_text_of ct_text_of : Value}
    {f_leaves_of : Addr} {od_leaves_of an_leaves_of : Option Addr} {sl_leaves_of : Array (Option Value)} {oc_leaves_of kV_leaves_of dc_leaves_of pm_leaves_of cd_leaves_of ct_leaves_of : Value}
    {f_value_of : Addr} {od_value_of an_value_of : Option Addr} {sl_value_of : Array (Option Value)} {oc_value_of kV_value_of dc_value_of pm_value_of cd_value_of ct_value_of : Value}
    {f_stands_in : Addr} {od_stands_in an_stands_in : Option Addr} {sl_stands_in : Array (Option Value)} {oc_stands_in kV_stands_in dc_stands_in pm_stands_in cd_stands_in ct_stands_in : Value}
    {f_plan_of : Addr} {od_plan_of an_plan_of : Option Addr} {sl_plan_of : Array (Option Value)} {oc_plan_of kV_plan_of dc_plan_of pm_plan_of cd_plan_of ct_plan_of : Value}
    {C_Term : Addr}
    {f_Term___init__ : Addr} {od_Term___init__ an_Term___init__ : Option Addr} {sl_Term___init__ : Array (Option Value)} {oc_Term___init__ kV_Term___init__ dc_Term___init__ pm_Term___init__ cd_Term___init__ ct_Term___init__ : Value}
    {f_Term_choice : Addr} {od_Term_choice an_Term_choice : Option Addr} {sl_Term_choice : Array (Option Value)} {oc_Term_choice kV_Term_choice dc_Term_choice pm_Term_choice cd_Term_choice ct_Term_choice : Value}
    {p_Term_choice : Addr} {re_Term_choice : List Value}
    {f_Term___str__ : Addr} {od_Term___str__ an_Term___str__ : Option Addr} {sl_Term___str__ : Array (Option Value)} {oc_Term___str__ kV_Term___str__ dc_Term___str__ pm_Term___str__ cd_Term___str__ ct_Term___str__ : Value}
    {f_Term_variables : Addr} {od_Term_variables an_Term_variables : Option Addr} {sl_Term_variables : Array (Option Value)} {oc_Term_variables kV_Term_variables dc_Term_variables pm_Term_variables cd_Term_variables ct_Term_variables : Value}
    {f_Term_constants : Addr} {od_Term_constants an_Term_constants : Option Addr} {sl_Term_constants : Array (Option Value)} {oc_Term_constants kV_Term_constants dc_Term_constants pm_Term_constants cd_Term_constants ct_Term_constants : Value}
    {f_Term_parts : Addr} {od_Term_parts an_Term_parts : Option Addr} {sl_Term_parts : Array (Option Value)} {oc_Term_parts kV_Term_parts dc_Term_parts pm_Term_parts cd_Term_parts ct_Term_parts : Value}
    {f_Term___call__ : Addr} {od_Term___call__ an_Term___call__ : Option Addr} {sl_Term___call__ : Array (Option Value)} {oc_Term___call__ kV_Term___call__ dc_Term___call__ pm_Term___call__ cd_Term___call__ ct_Term___call__ : Value}
    {f_Term___eq__ : Addr} {od_Term___eq__ an_Term___eq__ : Option Addr} {sl_Term___eq__ : Array (Option Value)} {oc_Term___eq__ kV_Term___eq__ dc_Term___eq__ pm_Term___eq__ cd_Term___eq__ ct_Term___eq__ : Value}
    {f_Term_within : Addr} {od_Term_within an_Term_within : Option Addr} {sl_Term_within : Array (Option Value)} {oc_Term_within kV_Term_within dc_Term_within pm_Term_within cd_Term_within ct_Term_within : Value}
    {f__law_pool : Addr} {od__law_pool an__law_pool : Option Addr} {sl__law_pool : Array (Option Value)} {oc__law_pool kV__law_pool dc__law_pool pm__law_pool cd__law_pool ct__law_pool : Value}
    {f__law_take : Addr} {od__law_take an__law_take : Option Addr} {sl__law_take : Array (Option Value)} {oc__law_take kV__law_take dc__law_take pm__law_take cd__law_take ct__law_take : Value}
    {f__law_one : Addr} {od__law_one an__law_one : Option Addr} {sl__law_one : Array (Option Value)} {oc__law_one kV__law_one dc__law_one pm__law_one cd__law_one ct__law_one : Value}
    {f__law_part : Addr} {od__law_part an__law_part : Option Addr} {sl__law_part : Array (Option Value)} {oc__law_part kV__law_part dc__law_part pm__law_part cd__law_part ct__law_part : Value}
    {f__law_words : Addr} {od__law_words an__law_words : Option Addr} {sl__law_words : Array (Option Value)} {oc__law_words kV__law_words dc__law_words pm__law_words cd__law_words ct__law_words : Value}
    {f__law_tree : Addr} {od__law_tree an__law_tree : Option Addr} {sl__law_tree : Array (Option Value)} {oc__law_tree kV__law_tree dc__law_tree pm__law_tree cd__law_tree ct__law_tree : Value}
    {f__law_tree_text : Addr} {od__law_tree_text an__law_tree_text : Option Addr} {sl__law_tree_text : Array (Option Value)} {oc__law_tree_text kV__law_tree_text dc__law_tree_text pm__law_tree_text cd__law_tree_text ct__law_tree_text : Value}
    {f__law_tree_leaves : Addr} {od__law_tree_leaves an__law_tree_leaves : Option Addr} {sl__law_tree_leaves : Array (Option Value)} {oc__law_tree_leaves kV__law_tree_leaves dc__law_tree_leaves pm__law_tree_leaves cd__law_tree_leaves ct__law_tree_leaves : Value}
    {f__law_tree_words : Addr} {od__law_tree_words an__law_tree_words : Option Addr} {sl__law_tree_words : Array (Option Value)} {oc__law_tree_words kV__law_tree_words dc__law_tree_words pm__law_tree_words cd__law_tree_words ct__law_tree_words : Value}
    {f__law_tree_digits : Addr} {od__law_tree_digits an__law_tree_digits : Option Addr} {sl__law_tree_digits : Array (Option Value)} {oc__law_tree_digits kV__law_tree_digits dc__law_tree_digits pm__law_tree_digits cd__law_tree_digits ct__law_tree_digits : Value}
    {f__law_tree_worth : Addr} {od__law_tree_worth an__law_tree_worth : Option Addr} {sl__law_tree_worth : Array (Option Value)} {oc__law_tree_worth kV__law_tree_worth dc__law_tree_worth pm__law_tree_worth cd__law_tree_worth ct__law_tree_worth : Value}
    {f__law_told : Addr} {od__law_told an__law_told : Option Addr} {sl__law_told : Array (Option Value)} {oc__law_told kV__law_told dc__law_told pm__law_told cd__law_told ct__law_told : Value}
    {f__law_due : Addr} {od__law_due an__law_due : Option Addr} {sl__law_due : Array (Option Value)} {oc__law_due kV__law_due dc__law_due pm__law_due cd__law_due ct__law_due : Value}
    {f__law_moved_right : Addr} {od__law_moved_right an__law_moved_right : Option Addr} {sl__law_moved_right : Array (Option Value)} {oc__law_moved_right kV__law_moved_right dc__law_moved_right pm__law_moved_right cd__law_moved_right ct__law_moved_right : Value}
    {f_law : Addr} {od_law an_law : Option Addr} {sl_law : Array (Option Value)} {oc_law kV_law dc_law pm_law cd_law ct_law : Value}
    (h_g_TiedError : PySem.W.nsIn K mainGlobals "TiedError" = some (some (.ref C_TiedError)))
    (h_g_NoTerm : PySem.W.nsIn K mainGlobals "NoTerm" = some (some (.ref C_NoTerm)))
    (h_l_NoTerm : K.lookup C_NoTerm = some (excClassObj nm_NoTerm q_NoTerm C_NoTerm N_NoTerm bs_NoTerm bm_NoTerm true sn_NoTerm su_NoTerm ab_NoTerm co_NoTerm dd_NoTerm k0_NoTerm k1_NoTerm k2_NoTerm k3_NoTerm k5_NoTerm "ValueError.__new__"))
    (h_r_NoTerm : PySem.HandSPX.refsVE bm_NoTerm = true)
    (h_s_NoTerm : PySem.W.findIn K (.ref C_NoTerm) "__setattr__" = some (some (.builtin "object.__setattr__")))
    (h_n_NoTerm : PySem.W.findIn K (.ref C_NoTerm) "value" = some none)
    (h_i_NoTerm : PySem.W.findIn K (.ref C_NoTerm) "__init__" = some (some (.ref i_NoTerm)))
    (h_t_NoTerm : PySem.W.typeIn K (.ref i_NoTerm) = some (.type "function"))
    (h_k_NoTerm : PySem.W.keepIn K (.ref C_NoTerm) = true)
    (h_x_NoTerm : PySem.W.subIn K (.ref C_NoTerm) (.type "BaseException") = some true)
    (h_v_NoTerm : PySem.W.subIn K (.ref C_NoTerm) (.type "ValueError") = some true)
    (h_y_NoTerm : PySem.W.typeIn K (.ref C_NoTerm) = some (.type "type"))
    (h_xf_NoTerm : xfB K C_NoTerm = true)
    (h_fn_NoTerm : K.lookup i_NoTerm = some ⟨oc_NoTerm, od_NoTerm, .func (PySem.W.fnX "__init__" "NoTerm.__init__" (xiA "value" p1_NoTerm p2_NoTerm) (xiB "value" m_NoTerm j_NoTerm q0_NoTerm q1_NoTerm q2_NoTerm q3_NoTerm q4_NoTerm q5_NoTerm r1_NoTerm r2_NoTerm r3_NoTerm r4_NoTerm) (xiS "value") [("__class__", cc_NoTerm)] .none kV_NoTerm dc_NoTerm pm_NoTerm an_NoTerm (.ref cda_NoTerm) ct_NoTerm), sl_NoTerm⟩)
    (h_cd_NoTerm : PySem.W.codeIn K (.ref cda_NoTerm) "NoTerm.__init__" = true)
    (h_lc_NoTerm : K.lookup cda_NoTerm = some ⟨ccl_NoTerm, cdd_NoTerm, .fields vs_NoTerm, ccs_NoTerm⟩)
    (h_v2_NoTerm : vs_NoTerm[2]? = some (.str file_NoTerm tf_NoTerm))
    (h_fi_NoTerm : ((P.main.file : Str) == file_NoTerm) = true)
    (h_ln_NoTerm : (q2_NoTerm.endLine == q4_NoTerm.line) = true)
    (h_ce_NoTerm : K.lookup cc_NoTerm = some ⟨cl_NoTerm, cld_NoTerm, .cell (some (.ref C_NoTerm)), csl_NoTerm⟩)
    (h_se_NoTerm : PySem.W.mroIn K C_NoTerm (.ref C_NoTerm) = some true)
    (h_up_NoTerm : PySem.W.ks_superIn K C_NoTerm C_NoTerm "__init__" = some (some (.builtin "ValueError.__init__")))
    (h_te_NoTerm : PySem.W.exmOne K (.ref C_NoTerm) (.ref C_NoTerm) = some true)
    (h_kb_NoTerm_TiedError : PySem.W.kitOne K (.ref C_NoTerm) (.ref C_TiedError) = some true)
    (h_g_NoName : PySem.W.nsIn K mainGlobals "NoName" = some (some (.ref C_NoName)))
    (h_l_NoName : K.lookup C_NoName = some (excClassObj nm_NoName q_NoName C_NoName N_NoName bs_NoName [.type "KeyError", .type "LookupError", .type "Exception", .type "BaseException", .type "object"] true sn_NoName su_NoName ab_NoName co_NoName dd_NoName k0_NoName k1_NoName k2_NoName k3_NoName k5_NoName "LookupError.__new__"))
    (h_s_NoName : PySem.W.findIn K (.ref C_NoName) "__setattr__" = some (some (.builtin "object.__setattr__")))
    (h_n_NoName : PySem.W.findIn K (.ref C_NoName) "who" = some none)
    (h_i_NoName : PySem.W.findIn K (.ref C_NoName) "__init__" = some (some (.ref i_NoName)))
    (h_t_NoName : PySem.W.typeIn K (.ref i_NoName) = some (.type "function"))
    (h_k_NoName : PySem.W.keepIn K (.ref C_NoName) = true)
    (h_x_NoName : PySem.W.subIn K (.ref C_NoName) (.type "BaseException") = some true)
    (h_v_NoName : PySem.W.subIn K (.ref C_NoName) (.type "KeyError") = some true)
    (h_y_NoName : PySem.W.typeIn K (.ref C_NoName) = some (.type "type"))
    (h_xf_NoName : xfB K C_NoName = true)
    (h_fn_NoName : K.lookup i_NoName = some ⟨oc_NoName, od_NoName, .func (PySem.W.fnX "__init__" "NoName.__init__" (xiA "who" p1_NoName p2_NoName) (xiB "who" m_NoName j_NoName q0_NoName q1_NoName q2_NoName q3_NoName q4_NoName q5_NoName r1_NoName r2_NoName r3_NoName r4_NoName) (xiS "who") [("__class__", cc_NoName)] .none kV_NoName dc_NoName pm_NoName an_NoName (.ref cda_NoName) ct_NoName), sl_NoName⟩)
    (h_cd_NoName : PySem.W.codeIn K (.ref cda_NoName) "NoName.__init__" = true)
    (h_lc_NoName : K.lookup cda_NoName = some ⟨ccl_NoName, cdd_NoName, .fields vs_NoName, ccs_NoName⟩)
    (h_v2_NoName : vs_NoName[2]? = some (.str file_NoName tf_NoName))
    (h_fi_NoName : ((P.main.file : Str) == file_NoName) = true)
    (h_ln_NoName : (q2_NoName.endLine == q4_NoName.line) = true)
    (h_ce_NoName : K.lookup cc_NoName = some ⟨cl_NoName, cld_NoName, .cell (some (.ref C_NoName)), csl_NoName⟩)
    (h_se_NoName : PySem.W.mroIn K C_NoName (.ref C_NoName) = some true)
    (h_up_NoName : PySem.W.ks_superIn K C_NoName C_NoName "__init__" = some (some (.builtin "KeyError.__init__")))
    (h_te_NoName : PySem.W.exmOne K (.ref C_NoName) (.ref C_NoName) = some true)
    (h_kr_NoName : PySem.W.kitOne K (.ref C_NoName) (.type "KeyError") = some true)
    (h_b_KeyError : PySem.W.nsIn K mainGlobals "KeyError" = some none)
    (h_v_LETTERS : PySem.W.nsIn K mainGlobals "LETTERS" = some (some (.str "abcdefghijklmnopqrstuvwxyz" t_LETTERS)))
    (h_v_DIGITS : PySem.W.nsIn K mainGlobals "DIGITS" = some (some (.str "0123456789" t_DIGITS)))
    (h_v_MOST_LETTERS : PySem.W.nsIn K mainGlobals "MOST_LETTERS" = some (some (.int 8 t_MOST_LETTERS)))
    (h_a_is_whole : PySem.W.nsIn K mainGlobals "is_whole" = some (some (.ref f_is_whole)))
    (h_l_is_whole : K.lookup f_is_whole = some ⟨oc_is_whole, od_is_whole, .func (PySem.W.fnOf "is_whole" "is_whole" (defArgs s_is_whole) (defBody s_is_whole) (defScope s_is_whole) .none kV_is_whole dc_is_whole pm_is_whole an_is_whole cd_is_whole ct_is_whole), sl_is_whole⟩)
    (h_c_is_whole : PySem.W.codeIn K cd_is_whole "is_whole" = true)
    (h_k_is_whole : PySem.W.keepIn K (.ref f_is_whole) = true)
    (h_a_is_number : PySem.W.nsIn K mainGlobals "is_number" = some (some (.ref f_is_number)))
    (h_l_is_number : K.lookup f_is_number = some ⟨oc_is_number, od_is_number, .func (PySem.W.fnOf "is_number" "is_number" (defArgs s_is_number) (defBody s_is_number) (defScope s_is_number) .none kV_is_number dc_is_number pm_is_number an_is_number cd_is_number ct_is_number), sl_is_number⟩)
    (h_c_is_number : PySem.W.codeIn K cd_is_number "is_number" = true)
    (h_k_is_number : PySem.W.keepIn K (.ref f_is_number) = true)
    (h_a_is_word : PySem.W.nsIn K mainGlobals "is_word" = some (some (.ref f_is_word)))
    (h_l_is_word : K.lookup f_is_word = some ⟨oc_is_word, od_is_word, .func (PySem.W.fnOf "is_word" "is_word" (defArgs s_is_word) (defBody s_is_word) (defScope s_is_word) .none kV_is_word dc_is_word pm_is_word an_is_word cd_is_word ct_is_word), sl_is_word⟩)
    (h_c_is_word : PySem.W.codeIn K cd_is_word "is_word" = true)
    (h_k_is_word : PySem.W.keepIn K (.ref f_is_word) = true)
    (h_a_is_digit : PySem.W.nsIn K mainGlobals "is_digit" = some (some (.ref f_is_digit)))
    (h_l_is_digit : K.lookup f_is_digit = some ⟨oc_is_digit, od_is_digit, .func (PySem.W.fnOf "is_digit" "is_digit" (defArgs s_is_digit) (defBody s_is_digit) (defScope s_is_digit) .none kV_is_digit dc_is_digit pm_is_digit an_is_digit cd_is_digit ct_is_digit), sl_is_digit⟩)
    (h_c_is_digit : PySem.W.codeIn K cd_is_digit "is_digit" = true)
    (h_k_is_digit : PySem.W.keepIn K (.ref f_is_digit) = true)
    (h_a_ascending_words : PySem.W.nsIn K mainGlobals "ascending_words" = some (some (.ref f_ascending_words)))
    (h_l_ascending_words : K.lookup f_ascending_words = some ⟨oc_ascending_words, od_ascending_words, .func (PySem.W.fnOf "ascending_words" "ascending_words" (defArgs s_ascending_words) (defBody s_ascending_words) (defScope s_ascending_words) .none kV_ascending_words dc_ascending_words pm_ascending_words an_ascending_words cd_ascending_words ct_ascending_words), sl_ascending_words⟩)
    (h_c_ascending_words : PySem.W.codeIn K cd_ascending_words "ascending_words" = true)
    (h_k_ascending_words : PySem.W.keepIn K (.ref f_ascending_words) = true)
    (h_a_ascending_numbers : PySem.W.nsIn K mainGlobals "ascending_numbers" = some (some (.ref f_ascending_numbers)))
    (h_l_ascending_numbers : K.lookup f_ascending_numbers = some ⟨oc_ascending_numbers, od_ascending_numbers, .func (PySem.W.fnOf "ascending_numbers" "ascending_numbers" (defArgs s_ascending_numbers) (defBody s_ascending_numbers) (defScope s_ascending_numbers) .none kV_ascending_numbers dc_ascending_numbers pm_ascending_numbers an_ascending_numbers cd_ascending_numbers ct_ascending_numbers), sl_ascending_numbers⟩)
    (h_c_ascending_numbers : PySem.W.codeIn K cd_ascending_numbers "ascending_numbers" = true)
    (h_k_ascending_numbers : PySem.W.keepIn K (.ref f_ascending_numbers) = true)
    (h_v_MOST_DEPTH : PySem.W.nsIn K mainGlobals "MOST_DEPTH" = some (some (.int 3 t_MOST_DEPTH)))
    (h_v_MOST_CONSTANT : PySem.W.nsIn K mainGlobals "MOST_CONSTANT" = some (some (.int 9 t_MOST_CONSTANT)))
    (h_v_SIGNS : PySem.W.nsIn K mainGlobals "SIGNS" = some (some (.ref v_SIGNS)))
    (h_w_SIGNS : K.lookup v_SIGNS = some ⟨.type "tuple", dd_SIGNS, .seq #[.str "(" t0_SIGNS, .str "=" t1_SIGNS, .str "?" t2_SIGNS, .str ":" t3_SIGNS, .str ")" t4_SIGNS] n_SIGNS, sl_SIGNS⟩)
    (h_a_word_at : PySem.W.nsIn K mainGlobals "word_at" = some (some (.ref f_word_at)))
    (h_l_word_at : K.lookup f_word_at = some ⟨oc_word_at, od_word_at, .func (PySem.W.fnOf "word_at" "word_at" (defArgs s_word_at) (defBody s_word_at) (defScope s_word_at) .none kV_word_at dc_word_at pm_word_at an_word_at cd_word_at ct_word_at), sl_word_at⟩)
    (h_c_word_at : PySem.W.codeIn K cd_word_at "word_at" = true)
    (h_k_word_at : PySem.W.keepIn K (.ref f_word_at) = true)
    (h_a_plan_at : PySem.W.nsIn K mainGlobals "plan_at" = some (some (.ref f_plan_at)))
    (h_l_plan_at : K.lookup f_plan_at = some ⟨oc_plan_at, od_plan_at, .func (PySem.W.fnOf "plan_at" "plan_at" (defArgs s_plan_at) (defBody s_plan_at) (defScope s_plan_at) .none kV_plan_at dc_plan_at pm_plan_at an_plan_at cd_plan_at ct_plan_at), sl_plan_at⟩)
    (h_c_plan_at : PySem.W.codeIn K cd_plan_at "plan_at" = true)
    (h_k_plan_at : PySem.W.keepIn K (.ref f_plan_at) = true)
    (h_a_text_of : PySem.W.nsIn K mainGlobals "text_of" = some (some (.ref f_text_of)))
    (h_l_text_of : K.lookup f_text_of = some ⟨oc_text_of, od_text_of, .func (PySem.W.fnOf "text_of" "text_of" (defArgs s_text_of) (defBody s_text_of) (defScope s_text_of) .none kV_text_of dc_text_of pm_text_of an_text_of cd_text_of ct_text_of), sl_text_of⟩)
    (h_c_text_of : PySem.W.codeIn K cd_text_of "text_of" = true)
    (h_k_text_of : PySem.W.keepIn K (.ref f_text_of) = true)
    (h_a_leaves_of : PySem.W.nsIn K mainGlobals "leaves_of" = some (some (.ref f_leaves_of)))
    (h_l_leaves_of : K.lookup f_leaves_of = some ⟨oc_leaves_of, od_leaves_of, .func (PySem.W.fnOf "leaves_of" "leaves_of" (defArgs s_leaves_of) (defBody s_leaves_of) (defScope s_leaves_of) .none kV_leaves_of dc_leaves_of pm_leaves_of an_leaves_of cd_leaves_of ct_leaves_of), sl_leaves_of⟩)
    (h_c_leaves_of : PySem.W.codeIn K cd_leaves_of "leaves_of" = true)
    (h_k_leaves_of : PySem.W.keepIn K (.ref f_leaves_of) = true)
    (h_a_value_of : PySem.W.nsIn K mainGlobals "value_of" = some (some (.ref f_value_of)))
    (h_l_value_of : K.lookup f_value_of = some ⟨oc_value_of, od_value_of, .func (PySem.W.fnOf "value_of" "value_of" (defArgs s_value_of) (defBody s_value_of) (defScope s_value_of) .none kV_value_of dc_value_of pm_value_of an_value_of cd_value_of ct_value_of), sl_value_of⟩)
    (h_c_value_of : PySem.W.codeIn K cd_value_of "value_of" = true)
    (h_k_value_of : PySem.W.keepIn K (.ref f_value_of) = true)
    (h_a_stands_in : PySem.W.nsIn K mainGlobals "stands_in" = some (some (.ref f_stands_in)))
    (h_l_stands_in : K.lookup f_stands_in = some ⟨oc_stands_in, od_stands_in, .func (PySem.W.fnOf "stands_in" "stands_in" (defArgs s_stands_in) (defBody s_stands_in) (defScope s_stands_in) .none kV_stands_in dc_stands_in pm_stands_in an_stands_in cd_stands_in ct_stands_in), sl_stands_in⟩)
    (h_c_stands_in : PySem.W.codeIn K cd_stands_in "stands_in" = true)
    (h_k_stands_in : PySem.W.keepIn K (.ref f_stands_in) = true)
    (h_a_plan_of : PySem.W.nsIn K mainGlobals "plan_of" = some (some (.ref f_plan_of)))
    (h_l_plan_of : K.lookup f_plan_of = some ⟨oc_plan_of, od_plan_of, .func (PySem.W.fnOf "plan_of" "plan_of" (defArgs s_plan_of) (defBody s_plan_of) (defScope s_plan_of) .none kV_plan_of dc_plan_of pm_plan_of an_plan_of cd_plan_of ct_plan_of), sl_plan_of⟩)
    (h_c_plan_of : PySem.W.codeIn K cd_plan_of "plan_of" = true)
    (h_k_plan_of : PySem.W.keepIn K (.ref f_plan_of) = true)
    (h_g_Term : PySem.W.nsIn K mainGlobals "Term" = some (some (.ref C_Term)))
    (h_pg_Term : PySem.W.plainGet K C_Term Str.empty = true)
    (h_hd_Term : PySem.W.hasDictIn K C_Term = true)
    (h_po_Term : PySem.W.plainOver K C_Term = true)
    (h_sa_Term : PySem.W.findIn K (.ref C_Term) "__setattr__" = some (some (.builtin "object.__setattr__")))
    (h_kp_Term : PySem.W.keepIn K (.ref C_Term) = true)
    (h_ty_Term : PySem.W.findIn K (.ref C_Term) "__class__" = some (some (.builtin "object.__class__")))
    (h_mo_Term : PySem.W.mroIn K C_Term (.type "object") = some true)
    (h_kit_Term_NoneType : PySem.W.kitOne K (.type "NoneType") (.ref C_Term) = some false)
    (h_kit_Term_bool : PySem.W.kitOne K (.type "bool") (.ref C_Term) = some false)
    (h_kit_Term_int : PySem.W.kitOne K (.type "int") (.ref C_Term) = some false)
    (h_kit_Term_str : PySem.W.kitOne K (.type "str") (.ref C_Term) = some false)
    (h_kit_Term_list : PySem.W.kitOne K (.type "list") (.ref C_Term) = some false)
    (h_kit_Term_tuple : PySem.W.kitOne K (.type "tuple") (.ref C_Term) = some false)
    (h_kit_Term_dict : PySem.W.kitOne K (.type "dict") (.ref C_Term) = some false)
    (h_kik_Term_list : PySem.W.kitOne K (.ref C_Term) (.type "list") = some false)
    (h_kik_Term_tuple : PySem.W.kitOne K (.ref C_Term) (.type "tuple") = some false)
    (h_kik_Term_str : PySem.W.kitOne K (.ref C_Term) (.type "str") = some false)
    (h_kit_Term : PySem.W.kitOne K (.ref C_Term) (.ref C_Term) = some true)
    (h_l_Term___init__ : K.lookup f_Term___init__ = some ⟨oc_Term___init__, od_Term___init__, .func (PySem.W.fnOf "__init__" "Term.__init__" (defArgs s_Term___init__) (defBody s_Term___init__) (defScope s_Term___init__) .none kV_Term___init__ dc_Term___init__ pm_Term___init__ an_Term___init__ cd_Term___init__ ct_Term___init__), sl_Term___init__⟩)
    (h_c_Term___init__ : PySem.W.codeIn K cd_Term___init__ "Term.__init__" = true)
    (h_k_Term___init__ : PySem.W.keepIn K (.ref f_Term___init__) = true)
    (h_a_Term___init__ : PySem.W.findIn K (.ref C_Term) "__init__" = some (some (.ref f_Term___init__)))
    (h_i_Term___init__ : PySem.W.isFn K (.ref f_Term___init__) = true)
    (h_mk_Term : PySem.W.makesIn K C_Term = true)
    (h_l_Term_choice : K.lookup f_Term_choice = some ⟨oc_Term_choice, od_Term_choice, .func (PySem.W.fnOf "choice" "Term.choice" (defArgs s_Term_choice) (defBody s_Term_choice) (defScope s_Term_choice) .none kV_Term_choice dc_Term_choice pm_Term_choice an_Term_choice cd_Term_choice ct_Term_choice), sl_Term_choice⟩)
    (h_c_Term_choice : PySem.W.codeIn K cd_Term_choice "Term.choice" = true)
    (h_k_Term_choice : PySem.W.keepIn K (.ref f_Term_choice) = true)
    (h_r1_Term_choice : PySem.W.readsIn K C_Term (.type "type") = true)
    (h_r2_Term_choice : PySem.W.specialIn K (.ref C_Term) "__getattribute__" = some (some (.builtin "type.__getattribute__")))
    (h_r3_Term_choice : PySem.W.findCls K (.ref C_Term) (.type "type") "choice" = some (.get (.builtin "staticmethod.__get__") (.ref p_Term_choice) .none (.ref C_Term)))
    (h_r4_Term_choice : PySem.W.recIn K p_Term_choice "staticmethod" = some (.ref f_Term_choice :: re_Term_choice))
    (h_l_Term___str__ : K.lookup f_Term___str__ = some ⟨oc_Term___str__, od_Term___str__, .func (PySem.W.fnOf "__str__" "Term.__str__" (defArgs s_Term___str__) (defBody s_Term___str__) (defScope s_Term___str__) .none kV_Term___str__ dc_Term___str__ pm_Term___str__ an_Term___str__ cd_Term___str__ ct_Term___str__), sl_Term___str__⟩)
    (h_c_Term___str__ : PySem.W.codeIn K cd_Term___str__ "Term.__str__" = true)
    (h_k_Term___str__ : PySem.W.keepIn K (.ref f_Term___str__) = true)
    (h_a_Term___str__ : PySem.W.findIn K (.ref C_Term) "__str__" = some (some (.ref f_Term___str__)))
    (h_i_Term___str__ : PySem.W.isFn K (.ref f_Term___str__) = true)
    (h_fm_Term : PySem.W.findIn K (.ref C_Term) "__format__" = some (some (.builtin "object.__format__")))
    (h_l_Term_variables : K.lookup f_Term_variables = some ⟨oc_Term_variables, od_Term_variables, .func (PySem.W.fnOf "variables" "Term.variables" (defArgs s_Term_variables) (defBody s_Term_variables) (defScope s_Term_variables) .none kV_Term_variables dc_Term_variables pm_Term_variables an_Term_variables cd_Term_variables ct_Term_variables), sl_Term_variables⟩)
    (h_c_Term_variables : PySem.W.codeIn K cd_Term_variables "Term.variables" = true)
    (h_k_Term_variables : PySem.W.keepIn K (.ref f_Term_variables) = true)
    (h_a_Term_variables : PySem.W.findIn K (.ref C_Term) "variables" = some (some (.ref f_Term_variables)))
    (h_i_Term_variables : PySem.W.isFn K (.ref f_Term_variables) = true)
    (h_l_Term_constants : K.lookup f_Term_constants = some ⟨oc_Term_constants, od_Term_constants, .func (PySem.W.fnOf "constants" "Term.constants" (defArgs s_Term_constants) (defBody s_Term_constants) (defScope s_Term_constants) .none kV_Term_constants dc_Term_constants pm_Term_constants an_Term_constants cd_Term_constants ct_Term_constants), sl_Term_constants⟩)
    (h_c_Term_constants : PySem.W.codeIn K cd_Term_constants "Term.constants" = true)
    (h_k_Term_constants : PySem.W.keepIn K (.ref f_Term_constants) = true)
    (h_a_Term_constants : PySem.W.findIn K (.ref C_Term) "constants" = some (some (.ref f_Term_constants)))
    (h_i_Term_constants : PySem.W.isFn K (.ref f_Term_constants) = true)
    (h_l_Term_parts : K.lookup f_Term_parts = some ⟨oc_Term_parts, od_Term_parts, .func (PySem.W.fnOf "parts" "Term.parts" (defArgs s_Term_parts) (defBody s_Term_parts) (defScope s_Term_parts) .none kV_Term_parts dc_Term_parts pm_Term_parts an_Term_parts cd_Term_parts ct_Term_parts), sl_Term_parts⟩)
    (h_c_Term_parts : PySem.W.codeIn K cd_Term_parts "Term.parts" = true)
    (h_k_Term_parts : PySem.W.keepIn K (.ref f_Term_parts) = true)
    (h_a_Term_parts : PySem.W.findIn K (.ref C_Term) "parts" = some (some (.ref f_Term_parts)))
    (h_i_Term_parts : PySem.W.isFn K (.ref f_Term_parts) = true)
    (h_l_Term___call__ : K.lookup f_Term___call__ = some ⟨oc_Term___call__, od_Term___call__, .func (PySem.W.fnOf "__call__" "Term.__call__" (defArgs s_Term___call__) (defBody s_Term___call__) (defScope s_Term___call__) .none kV_Term___call__ dc_Term___call__ pm_Term___call__ an_Term___call__ cd_Term___call__ ct_Term___call__), sl_Term___call__⟩)
    (h_c_Term___call__ : PySem.W.codeIn K cd_Term___call__ "Term.__call__" = true)
    (h_k_Term___call__ : PySem.W.keepIn K (.ref f_Term___call__) = true)
    (h_a_Term___call__ : PySem.W.findIn K (.ref C_Term) "__call__" = some (some (.ref f_Term___call__)))
    (h_i_Term___call__ : PySem.W.isFn K (.ref f_Term___call__) = true)
    (h_o_Term___call__ : PySem.W.fnIn K f_Term___call__ = true)
    (h_l_Term___eq__ : K.lookup f_Term___eq__ = some ⟨oc_Term___eq__, od_Term___eq__, .func (PySem.W.fnOf "__eq__" "Term.__eq__" (defArgs s_Term___eq__) (defBody s_Term___eq__) (defScope s_Term___eq__) .none kV_Term___eq__ dc_Term___eq__ pm_Term___eq__ an_Term___eq__ cd_Term___eq__ ct_Term___eq__), sl_Term___eq__⟩)
    (h_c_Term___eq__ : PySem.W.codeIn K cd_Term___eq__ "Term.__eq__" = true)
    (h_k_Term___eq__ : PySem.W.keepIn K (.ref f_Term___eq__) = true)
    (h_a_Term___eq__ : PySem.W.findIn K (.ref C_Term) "__eq__" = some (some (.ref f_Term___eq__)))
    (h_i_Term___eq__ : PySem.W.isFn K (.ref f_Term___eq__) = true)
    (h_ne_Term : PySem.W.findIn K (.ref C_Term) "__ne__" = some (some (.builtin "object.__ne__")))
    (h_nf_Term : PySem.W.notFirst K C_Term (.type "str") = true)
    (h_nx_Term_int : PySem.W.notFirst K C_Term (.type "int") = true)
    (h_nx_Term_tuple : PySem.W.notFirst K C_Term (.type "tuple") = true)
    (h_nx_Term_NoneType : PySem.W.notFirst K C_Term (.type "NoneType") = true)
    (h_nx_Term_bool : PySem.W.notFirst K C_Term (.type "bool") = true)
    (h_nx_Term_list : PySem.W.notFirst K C_Term (.type "list") = true)
    (h_nx_Term_dict : PySem.W.notFirst K C_Term (.type "dict") = true)
    (h_l_Term_within : K.lookup f_Term_within = some ⟨oc_Term_within, od_Term_within, .func (PySem.W.fnOf "within" "Term.within" (defArgs s_Term_within) (defBody s_Term_within) (defScope s_Term_within) .none kV_Term_within dc_Term_within pm_Term_within an_Term_within cd_Term_within ct_Term_within), sl_Term_within⟩)
    (h_c_Term_within : PySem.W.codeIn K cd_Term_within "Term.within" = true)
    (h_k_Term_within : PySem.W.keepIn K (.ref f_Term_within) = true)
    (h_a_Term_within : PySem.W.findIn K (.ref C_Term) "within" = some (some (.ref f_Term_within)))
    (h_i_Term_within : PySem.W.isFn K (.ref f_Term_within) = true)
    (h_no_Term_tree : PySem.W.findIn K (.ref C_Term) "tree" = some none)
    (h_a__law_pool : PySem.W.nsIn K mainGlobals "_law_pool" = some (some (.ref f__law_pool)))
    (h_l__law_pool : K.lookup f__law_pool = some ⟨oc__law_pool, od__law_pool, .func (PySem.W.fnOf "_law_pool" "_law_pool" (defArgs s__law_pool) (defBody s__law_pool) (defScope s__law_pool) .none kV__law_pool dc__law_pool pm__law_pool an__law_pool cd__law_pool ct__law_pool), sl__law_pool⟩)
    (h_c__law_pool : PySem.W.codeIn K cd__law_pool "_law_pool" = true)
    (h_k__law_pool : PySem.W.keepIn K (.ref f__law_pool) = true)
    (h_a__law_take : PySem.W.nsIn K mainGlobals "_law_take" = some (some (.ref f__law_take)))
    (h_l__law_take : K.lookup f__law_take = some ⟨oc__law_take, od__law_take, .func (PySem.W.fnOf "_law_take" "_law_take" (defArgs s__law_take) (defBody s__law_take) (defScope s__law_take) .none kV__law_take dc__law_take pm__law_take an__law_take cd__law_take ct__law_take), sl__law_take⟩)
    (h_c__law_take : PySem.W.codeIn K cd__law_take "_law_take" = true)
    (h_k__law_take : PySem.W.keepIn K (.ref f__law_take) = true)
    (h_a__law_one : PySem.W.nsIn K mainGlobals "_law_one" = some (some (.ref f__law_one)))
    (h_l__law_one : K.lookup f__law_one = some ⟨oc__law_one, od__law_one, .func (PySem.W.fnOf "_law_one" "_law_one" (defArgs s__law_one) (defBody s__law_one) (defScope s__law_one) .none kV__law_one dc__law_one pm__law_one an__law_one cd__law_one ct__law_one), sl__law_one⟩)
    (h_c__law_one : PySem.W.codeIn K cd__law_one "_law_one" = true)
    (h_k__law_one : PySem.W.keepIn K (.ref f__law_one) = true)
    (h_a__law_part : PySem.W.nsIn K mainGlobals "_law_part" = some (some (.ref f__law_part)))
    (h_l__law_part : K.lookup f__law_part = some ⟨oc__law_part, od__law_part, .func (PySem.W.fnOf "_law_part" "_law_part" (defArgs s__law_part) (defBody s__law_part) (defScope s__law_part) .none kV__law_part dc__law_part pm__law_part an__law_part cd__law_part ct__law_part), sl__law_part⟩)
    (h_c__law_part : PySem.W.codeIn K cd__law_part "_law_part" = true)
    (h_k__law_part : PySem.W.keepIn K (.ref f__law_part) = true)
    (h_a__law_words : PySem.W.nsIn K mainGlobals "_law_words" = some (some (.ref f__law_words)))
    (h_l__law_words : K.lookup f__law_words = some ⟨oc__law_words, od__law_words, .func (PySem.W.fnOf "_law_words" "_law_words" (defArgs s__law_words) (defBody s__law_words) (defScope s__law_words) .none kV__law_words dc__law_words pm__law_words an__law_words cd__law_words ct__law_words), sl__law_words⟩)
    (h_c__law_words : PySem.W.codeIn K cd__law_words "_law_words" = true)
    (h_k__law_words : PySem.W.keepIn K (.ref f__law_words) = true)
    (h_a__law_tree : PySem.W.nsIn K mainGlobals "_law_tree" = some (some (.ref f__law_tree)))
    (h_l__law_tree : K.lookup f__law_tree = some ⟨oc__law_tree, od__law_tree, .func (PySem.W.fnOf "_law_tree" "_law_tree" (defArgs s__law_tree) (defBody s__law_tree) (defScope s__law_tree) .none kV__law_tree dc__law_tree pm__law_tree an__law_tree cd__law_tree ct__law_tree), sl__law_tree⟩)
    (h_c__law_tree : PySem.W.codeIn K cd__law_tree "_law_tree" = true)
    (h_k__law_tree : PySem.W.keepIn K (.ref f__law_tree) = true)
    (h_a__law_tree_text : PySem.W.nsIn K mainGlobals "_law_tree_text" = some (some (.ref f__law_tree_text)))
    (h_l__law_tree_text : K.lookup f__law_tree_text = some ⟨oc__law_tree_text, od__law_tree_text, .func (PySem.W.fnOf "_law_tree_text" "_law_tree_text" (defArgs s__law_tree_text) (defBody s__law_tree_text) (defScope s__law_tree_text) .none kV__law_tree_text dc__law_tree_text pm__law_tree_text an__law_tree_text cd__law_tree_text ct__law_tree_text), sl__law_tree_text⟩)
    (h_c__law_tree_text : PySem.W.codeIn K cd__law_tree_text "_law_tree_text" = true)
    (h_k__law_tree_text : PySem.W.keepIn K (.ref f__law_tree_text) = true)
    (h_a__law_tree_leaves : PySem.W.nsIn K mainGlobals "_law_tree_leaves" = some (some (.ref f__law_tree_leaves)))
    (h_l__law_tree_leaves : K.lookup f__law_tree_leaves = some ⟨oc__law_tree_leaves, od__law_tree_leaves, .func (PySem.W.fnOf "_law_tree_leaves" "_law_tree_leaves" (defArgs s__law_tree_leaves) (defBody s__law_tree_leaves) (defScope s__law_tree_leaves) .none kV__law_tree_leaves dc__law_tree_leaves pm__law_tree_leaves an__law_tree_leaves cd__law_tree_leaves ct__law_tree_leaves), sl__law_tree_leaves⟩)
    (h_c__law_tree_leaves : PySem.W.codeIn K cd__law_tree_leaves "_law_tree_leaves" = true)
    (h_k__law_tree_leaves : PySem.W.keepIn K (.ref f__law_tree_leaves) = true)
    (h_a__law_tree_words : PySem.W.nsIn K mainGlobals "_law_tree_words" = some (some (.ref f__law_tree_words)))
    (h_l__law_tree_words : K.lookup f__law_tree_words = some ⟨oc__law_tree_words, od__law_tree_words, .func (PySem.W.fnOf "_law_tree_words" "_law_tree_words" (defArgs s__law_tree_words) (defBody s__law_tree_words) (defScope s__law_tree_words) .none kV__law_tree_words dc__law_tree_words pm__law_tree_words an__law_tree_words cd__law_tree_words ct__law_tree_words), sl__law_tree_words⟩)
    (h_c__law_tree_words : PySem.W.codeIn K cd__law_tree_words "_law_tree_words" = true)
    (h_k__law_tree_words : PySem.W.keepIn K (.ref f__law_tree_words) = true)
    (h_a__law_tree_digits : PySem.W.nsIn K mainGlobals "_law_tree_digits" = some (some (.ref f__law_tree_digits)))
    (h_l__law_tree_digits : K.lookup f__law_tree_digits = some ⟨oc__law_tree_digits, od__law_tree_digits, .func (PySem.W.fnOf "_law_tree_digits" "_law_tree_digits" (defArgs s__law_tree_digits) (defBody s__law_tree_digits) (defScope s__law_tree_digits) .none kV__law_tree_digits dc__law_tree_digits pm__law_tree_digits an__law_tree_digits cd__law_tree_digits ct__law_tree_digits), sl__law_tree_digits⟩)
    (h_c__law_tree_digits : PySem.W.codeIn K cd__law_tree_digits "_law_tree_digits" = true)
    (h_k__law_tree_digits : PySem.W.keepIn K (.ref f__law_tree_digits) = true)
    (h_a__law_tree_worth : PySem.W.nsIn K mainGlobals "_law_tree_worth" = some (some (.ref f__law_tree_worth)))
    (h_l__law_tree_worth : K.lookup f__law_tree_worth = some ⟨oc__law_tree_worth, od__law_tree_worth, .func (PySem.W.fnOf "_law_tree_worth" "_law_tree_worth" (defArgs s__law_tree_worth) (defBody s__law_tree_worth) (defScope s__law_tree_worth) .none kV__law_tree_worth dc__law_tree_worth pm__law_tree_worth an__law_tree_worth cd__law_tree_worth ct__law_tree_worth), sl__law_tree_worth⟩)
    (h_c__law_tree_worth : PySem.W.codeIn K cd__law_tree_worth "_law_tree_worth" = true)
    (h_k__law_tree_worth : PySem.W.keepIn K (.ref f__law_tree_worth) = true)
    (h_a__law_told : PySem.W.nsIn K mainGlobals "_law_told" = some (some (.ref f__law_told)))
    (h_l__law_told : K.lookup f__law_told = some ⟨oc__law_told, od__law_told, .func (PySem.W.fnOf "_law_told" "_law_told" (defArgs s__law_told) (defBody s__law_told) (defScope s__law_told) .none kV__law_told dc__law_told pm__law_told an__law_told cd__law_told ct__law_told), sl__law_told⟩)
    (h_c__law_told : PySem.W.codeIn K cd__law_told "_law_told" = true)
    (h_k__law_told : PySem.W.keepIn K (.ref f__law_told) = true)
    (h_a__law_due : PySem.W.nsIn K mainGlobals "_law_due" = some (some (.ref f__law_due)))
    (h_l__law_due : K.lookup f__law_due = some ⟨oc__law_due, od__law_due, .func (PySem.W.fnOf "_law_due" "_law_due" (defArgs s__law_due) (defBody s__law_due) (defScope s__law_due) .none kV__law_due dc__law_due pm__law_due an__law_due cd__law_due ct__law_due), sl__law_due⟩)
    (h_c__law_due : PySem.W.codeIn K cd__law_due "_law_due" = true)
    (h_k__law_due : PySem.W.keepIn K (.ref f__law_due) = true)
    (h_a__law_moved_right : PySem.W.nsIn K mainGlobals "_law_moved_right" = some (some (.ref f__law_moved_right)))
    (h_l__law_moved_right : K.lookup f__law_moved_right = some ⟨oc__law_moved_right, od__law_moved_right, .func (PySem.W.fnOf "_law_moved_right" "_law_moved_right" (defArgs s__law_moved_right) (defBody s__law_moved_right) (defScope s__law_moved_right) .none kV__law_moved_right dc__law_moved_right pm__law_moved_right an__law_moved_right cd__law_moved_right ct__law_moved_right), sl__law_moved_right⟩)
    (h_c__law_moved_right : PySem.W.codeIn K cd__law_moved_right "_law_moved_right" = true)
    (h_k__law_moved_right : PySem.W.keepIn K (.ref f__law_moved_right) = true)
    (h_a_law : PySem.W.nsIn K mainGlobals "law" = some (some (.ref f_law)))
    (h_l_law : K.lookup f_law = some ⟨oc_law, od_law, .func (PySem.W.fnOf "law" "law" (defArgs s_law) (defBody s_law) (defScope s_law) .none kV_law dc_law pm_law an_law cd_law ct_law), sl_law⟩)
    (h_c_law : PySem.W.codeIn K cd_law "law" = true)
    (h_k_law : PySem.W.keepIn K (.ref f_law) = true)
    (h_tq_NoName_NoTerm : PySem.W.exmOne K (.ref C_NoName) (.ref C_NoTerm) = some false)
    (h_tq_NoTerm_NoName : PySem.W.exmOne K (.ref C_NoTerm) (.ref C_NoName) = some false)
    (h_ki_NoName_TiedError : PySem.W.kitOne K (.ref C_NoName) (.ref C_TiedError) = some false)
    (h_ki_TiedError_TiedError : PySem.W.kitOne K (.ref C_TiedError) (.ref C_TiedError) = some true)
    (h_xc_NoName : PySem.W.findIn K (.ref C_NoName) "__class__" = some (some (.builtin "object.__class__")))
    (h_xm_NoName : PySem.W.mroIn K C_NoName (.type "object") = some true)
    (h_xi_NoName : (PySem.W.clsIn K C_NoName).isSome = true)
    (h_xc_NoTerm : PySem.W.findIn K (.ref C_NoTerm) "__class__" = some (some (.builtin "object.__class__")))
    (h_xm_NoTerm : PySem.W.mroIn K C_NoTerm (.type "object") = some true)
    (h_xi_NoTerm : (PySem.W.clsIn K C_NoTerm).isSome = true)
    (h_b_len : PySem.W.nsIn K mainGlobals "len" = some none)
    (h_b_max : PySem.W.nsIn K mainGlobals "max" = some none)
    (h_b_min : PySem.W.nsIn K mainGlobals "min" = some none)
    (h_b_int : PySem.W.nsIn K mainGlobals "int" = some none)
    (h_b_str : PySem.W.nsIn K mainGlobals "str" = some none)
    (h_b_tuple : PySem.W.nsIn K mainGlobals "tuple" = some none)
    (h_b_list : PySem.W.nsIn K mainGlobals "list" = some none)
    (h_b_bool : PySem.W.nsIn K mainGlobals "bool" = some none)
    (h_b_dict : PySem.W.nsIn K mainGlobals "dict" = some none)
    (h_b_set : PySem.W.nsIn K mainGlobals "set" = some none)
    (h_b_isinstance : PySem.W.nsIn K mainGlobals "isinstance" = some none)
    (h_b_sorted : PySem.W.nsIn K mainGlobals "sorted" = some none)
    (h_b_repr : PySem.W.nsIn K mainGlobals "repr" = some none)
    (h_b_range : PySem.W.nsIn K mainGlobals "range" = some none)
    (h_b_enumerate : PySem.W.nsIn K mainGlobals "enumerate" = some none)
    (h_b_zip : PySem.W.nsIn K mainGlobals "zip" = some none)
    (h_b_sum : PySem.W.nsIn K mainGlobals "sum" = some none)
    (h_b_all : PySem.W.nsIn K mainGlobals "all" = some none)
    (h_b_any : PySem.W.nsIn K mainGlobals "any" = some none)
    (h_sup : PySem.W.nsIn K mainGlobals "super" = some none)
    (h_topS : (P.main.scope.names.lookup ("super" : Str)).isSome = false)
    (h_opq : PySem.W.nsIn K PySem.cStatics "thirdparty.any" = some none)
    (h_tn : PySem.W.specialIn K (.builtin "object.__class__") "__get__" = some (some (.builtin "getset_descriptor.__get__")))
    (h_tt : PySem.W.takesIn K (.builtin "object.__class__") = some true) :
    ∃ a : Ad, Tx P K mg a := by
  refine ⟨⟨C_TiedError, C_NoTerm, i_NoTerm, C_NoName, i_NoName, f_is_whole, (PySem.W.fnOf "is_whole" "is_whole" (defArgs s_is_whole) (defBody s_is_whole) (defScope s_is_whole) .none kV_is_whole dc_is_whole pm_is_whole an_is_whole cd_is_whole ct_is_whole), f_is_number, (PySem.W.fnOf "is_number" "is_number" (defArgs s_is_number) (defBody s_is_number) (defScope s_is_number) .none kV_is_number dc_is_number pm_is_number an_is_number cd_is_number ct_is_number), f_is_word, (PySem.W.fnOf "is_word" "is_word" (defArgs s_is_word) (defBody s_is_word) (defScope s_is_word) .none kV_is_word dc_is_word pm_is_word an_is_word cd_is_word ct_is_word), f_is_digit, (PySem.W.fnOf "is_digit" "is_digit" (defArgs s_is_digit) (defBody s_is_digit) (defScope s_is_digit) .none kV_is_digit dc_is_digit pm_is_digit an_is_digit cd_is_digit ct_is_digit), f_ascending_words, (PySem.W.fnOf "ascending_words" "ascending_words" (defArgs s_ascending_words) (defBody s_ascending_words) (defScope s_ascending_words) .none kV_ascending_words dc_ascending_words pm_ascending_words an_ascending_words cd_ascending_words ct_ascending_words), f_ascending_numbers, (PySem.W.fnOf "ascending_numbers" "ascending_numbers" (defArgs s_ascending_numbers) (defBody s_ascending_numbers) (defScope s_ascending_numbers) .none kV_ascending_numbers dc_ascending_numbers pm_ascending_numbers an_ascending_numbers cd_ascending_numbers ct_ascending_numbers), v_SIGNS, f_word_at, (PySem.W.fnOf "word_at" "word_at" (defArgs s_word_at) (defBody s_word_at) (defScope s_word_at) .none kV_word_at dc_word_at pm_word_at an_word_at cd_word_at ct_word_at), f_plan_at, (PySem.W.fnOf "plan_at" "plan_at" (defArgs s_plan_at) (defBody s_plan_at) (defScope s_plan_at) .none kV_plan_at dc_plan_at pm_plan_at an_plan_at cd_plan_at ct_plan_at), f_text_of, (PySem.W.fnOf "text_of" "text_of" (defArgs s_text_of) (defBody s_text_of) (defScope s_text_of) .none kV_text_of dc_text_of pm_text_of an_text_of cd_text_of ct_text_of), f_leaves_of, (PySem.W.fnOf "leaves_of" "leaves_of" (defArgs s_leaves_of) (defBody s_leaves_of) (defScope s_leaves_of) .none kV_leaves_of dc_leaves_of pm_leaves_of an_leaves_of cd_leaves_of ct_leaves_of), f_value_of, (PySem.W.fnOf "value_of" "value_of" (defArgs s_value_of) (defBody s_value_of) (defScope s_value_of) .none kV_value_of dc_value_of pm_value_of an_value_of cd_value_of ct_value_of), f_stands_in, (PySem.W.fnOf "stands_in" "stands_in" (defArgs s_stands_in) (defBody s_stands_in) (defScope s_stands_in) .none kV_stands_in dc_stands_in pm_stands_in an_stands_in cd_stands_in ct_stands_in), f_plan_of, (PySem.W.fnOf "plan_of" "plan_of" (defArgs s_plan_of) (defBody s_plan_of) (defScope s_plan_of) .none kV_plan_of dc_plan_of pm_plan_of an_plan_of cd_plan_of ct_plan_of), C_Term, f_Term___init__, (PySem.W.fnOf "__init__" "Term.__init__" (defArgs s_Term___init__) (defBody s_Term___init__) (defScope s_Term___init__) .none kV_Term___init__ dc_Term___init__ pm_Term___init__ an_Term___init__ cd_Term___init__ ct_Term___init__), f_Term_choice, (PySem.W.fnOf "choice" "Term.choice" (defArgs s_Term_choice) (defBody s_Term_choice) (defScope s_Term_choice) .none kV_Term_choice dc_Term_choice pm_Term_choice an_Term_choice cd_Term_choice ct_Term_choice), p_Term_choice, f_Term___str__, (PySem.W.fnOf "__str__" "Term.__str__" (defArgs s_Term___str__) (defBody s_Term___str__) (defScope s_Term___str__) .none kV_Term___str__ dc_Term___str__ pm_Term___str__ an_Term___str__ cd_Term___str__ ct_Term___str__), f_Term_variables, (PySem.W.fnOf "variables" "Term.variables" (defArgs s_Term_variables) (defBody s_Term_variables) (defScope s_Term_variables) .none kV_Term_variables dc_Term_variables pm_Term_variables an_Term_variables cd_Term_variables ct_Term_variables), f_Term_constants, (PySem.W.fnOf "constants" "Term.constants" (defArgs s_Term_constants) (defBody s_Term_constants) (defScope s_Term_constants) .none kV_Term_constants dc_Term_constants pm_Term_constants an_Term_constants cd_Term_constants ct_Term_constants), f_Term_parts, (PySem.W.fnOf "parts" "Term.parts" (defArgs s_Term_parts) (defBody s_Term_parts) (defScope s_Term_parts) .none kV_Term_parts dc_Term_parts pm_Term_parts an_Term_parts cd_Term_parts ct_Term_parts), f_Term___call__, (PySem.W.fnOf "__call__" "Term.__call__" (defArgs s_Term___call__) (defBody s_Term___call__) (defScope s_Term___call__) .none kV_Term___call__ dc_Term___call__ pm_Term___call__ an_Term___call__ cd_Term___call__ ct_Term___call__), f_Term___eq__, (PySem.W.fnOf "__eq__" "Term.__eq__" (defArgs s_Term___eq__) (defBody s_Term___eq__) (defScope s_Term___eq__) .none kV_Term___eq__ dc_Term___eq__ pm_Term___eq__ an_Term___eq__ cd_Term___eq__ ct_Term___eq__), f_Term_within, (PySem.W.fnOf "within" "Term.within" (defArgs s_Term_within) (defBody s_Term_within) (defScope s_Term_within) .none kV_Term_within dc_Term_within pm_Term_within an_Term_within cd_Term_within ct_Term_within), f__law_pool, (PySem.W.fnOf "_law_pool" "_law_pool" (defArgs s__law_pool) (defBody s__law_pool) (defScope s__law_pool) .none kV__law_pool dc__law_pool pm__law_pool an__law_pool cd__law_pool ct__law_pool), f__law_take, (PySem.W.fnOf "_law_take" "_law_take" (defArgs s__law_take) (defBody s__law_take) (defScope s__law_take) .none kV__law_take dc__law_take pm__law_take an__law_take cd__law_take ct__law_take), f__law_one, (PySem.W.fnOf "_law_one" "_law_one" (defArgs s__law_one) (defBody s__law_one) (defScope s__law_one) .none kV__law_one dc__law_one pm__law_one an__law_one cd__law_one ct__law_one), f__law_part, (PySem.W.fnOf "_law_part" "_law_part" (defArgs s__law_part) (defBody s__law_part) (defScope s__law_part) .none kV__law_part dc__law_part pm__law_part an__law_part cd__law_part ct__law_part), f__law_words, (PySem.W.fnOf "_law_words" "_law_words" (defArgs s__law_words) (defBody s__law_words) (defScope s__law_words) .none kV__law_words dc__law_words pm__law_words an__law_words cd__law_words ct__law_words), f__law_tree, (PySem.W.fnOf "_law_tree" "_law_tree" (defArgs s__law_tree) (defBody s__law_tree) (defScope s__law_tree) .none kV__law_tree dc__law_tree pm__law_tree an__law_tree cd__law_tree ct__law_tree), f__law_tree_text, (PySem.W.fnOf "_law_tree_text" "_law_tree_text" (defArgs s__law_tree_text) (defBody s__law_tree_text) (defScope s__law_tree_text) .none kV__law_tree_text dc__law_tree_text pm__law_tree_text an__law_tree_text cd__law_tree_text ct__law_tree_text), f__law_tree_leaves, (PySem.W.fnOf "_law_tree_leaves" "_law_tree_leaves" (defArgs s__law_tree_leaves) (defBody s__law_tree_leaves) (defScope s__law_tree_leaves) .none kV__law_tree_leaves dc__law_tree_leaves pm__law_tree_leaves an__law_tree_leaves cd__law_tree_leaves ct__law_tree_leaves), f__law_tree_words, (PySem.W.fnOf "_law_tree_words" "_law_tree_words" (defArgs s__law_tree_words) (defBody s__law_tree_words) (defScope s__law_tree_words) .none kV__law_tree_words dc__law_tree_words pm__law_tree_words an__law_tree_words cd__law_tree_words ct__law_tree_words), f__law_tree_digits, (PySem.W.fnOf "_law_tree_digits" "_law_tree_digits" (defArgs s__law_tree_digits) (defBody s__law_tree_digits) (defScope s__law_tree_digits) .none kV__law_tree_digits dc__law_tree_digits pm__law_tree_digits an__law_tree_digits cd__law_tree_digits ct__law_tree_digits), f__law_tree_worth, (PySem.W.fnOf "_law_tree_worth" "_law_tree_worth" (defArgs s__law_tree_worth) (defBody s__law_tree_worth) (defScope s__law_tree_worth) .none kV__law_tree_worth dc__law_tree_worth pm__law_tree_worth an__law_tree_worth cd__law_tree_worth ct__law_tree_worth), f__law_told, (PySem.W.fnOf "_law_told" "_law_told" (defArgs s__law_told) (defBody s__law_told) (defScope s__law_told) .none kV__law_told dc__law_told pm__law_told an__law_told cd__law_told ct__law_told), f__law_due, (PySem.W.fnOf "_law_due" "_law_due" (defArgs s__law_due) (defBody s__law_due) (defScope s__law_due) .none kV__law_due dc__law_due pm__law_due an__law_due cd__law_due ct__law_due), f__law_moved_right, (PySem.W.fnOf "_law_moved_right" "_law_moved_right" (defArgs s__law_moved_right) (defBody s__law_moved_right) (defScope s__law_moved_right) .none kV__law_moved_right dc__law_moved_right pm__law_moved_right an__law_moved_right cd__law_moved_right ct__law_moved_right), f_law, (PySem.W.fnOf "law" "law" (defArgs s_law) (defBody s_law) (defScope s_law) .none kV_law dc_law pm_law an_law cd_law ct_law)⟩, ⟨?p_g_TiedError, ?p_te_NoTerm, ?p_kb_NoTerm_TiedError, ?p_e_NoTerm, ?p_te_NoName, ?p_kr_NoName, ?p_b_KeyError, ?p_e_NoName, ?p_v_LETTERS, ?p_v_DIGITS, ?p_v_MOST_LETTERS, ?p_is_whole, ?p_is_number, ?p_is_word, ?p_is_digit, ?p_ascending_words, ?p_ascending_numbers, ?p_v_MOST_DEPTH, ?p_v_MOST_CONSTANT, ?p_v_SIGNS, ?p_w_SIGNS, ?p_word_at, ?p_plan_at, ?p_text_of, ?p_leaves_of, ?p_value_of, ?p_stands_in, ?p_plan_of, ?p_g_Term, ?p_c_Term, ?p_kp_Term, ?p_ty_Term, ?p_mo_Term, ?p_kit_Term_NoneType, ?p_kit_Term_bool, ?p_kit_Term_int, ?p_kit_Term_str, ?p_kit_Term_list, ?p_kit_Term_tuple, ?p_kit_Term_dict, ?p_kik_Term_list, ?p_kik_Term_tuple, ?p_kik_Term_str, ?p_kit_Term, ?p_Term___init__, ?p_b_Term___init__, ?p_mk_Term, ?p_Term_choice, ?p_b_Term_choice, ?p_m_Term_choice, ?p_Term___str__, ?p_b_Term___str__, ?p_m_Term___str__, ?p_fm_Term, ?p_Term_variables, ?p_b_Term_variables, ?p_m_Term_variables, ?p_Term_constants, ?p_b_Term_constants, ?p_m_Term_constants, ?p_Term_parts, ?p_b_Term_parts, ?p_m_Term_parts, ?p_Term___call__, ?p_b_Term___call__, ?p_m_Term___call__, ?p_o_Term___call__, ?p_Term___eq__, ?p_b_Term___eq__, ?p_m_Term___eq__, ?p_nx_Term_int, ?p_nx_Term_tuple, ?p_nx_Term_NoneType, ?p_nx_Term_bool, ?p_nx_Term_list, ?p_nx_Term_dict, ?p_nf_Term, ?p_ne_Term, ?p_Term_within, ?p_b_Term_within, ?p_m_Term_within, ?p_no_Term_tree, ?p__law_pool, ?p__law_take, ?p__law_one, ?p__law_part, ?p__law_words, ?p__law_tree, ?p__law_tree_text, ?p__law_tree_leaves, ?p__law_tree_words, ?p__law_tree_digits, ?p__law_tree_worth, ?p__law_told, ?p__law_due, ?p__law_moved_right, ?p_law, ?p_blaw, ?p_tq_NoName_NoTerm, ?p_tq_NoTerm_NoName, ?p_ki_NoName_TiedError, ?p_ki_TiedError_TiedError, ?p_xc_NoName, ?p_xm_NoName, ?p_xi_NoName, ?p_xc_NoTerm, ?p_xm_NoTerm, ?p_xi_NoTerm, ?p_bi, ?p_tn, ?p_tt⟩⟩
  case p_g_TiedError => exact PySem.W.mg_of X G h_g_TiedError
  case p_te_NoTerm => exact h_te_NoTerm
  case p_kb_NoTerm_TiedError => exact h_kb_NoTerm_TiedError
  case p_e_NoTerm => exact ⟨PySem.W.mg_of X G h_g_NoTerm, ⟨_, _, _, _, _, _, _, _, _, _, _, _, _, _, _, h_l_NoTerm, h_r_NoTerm⟩, h_s_NoTerm, h_n_NoTerm, h_i_NoTerm, h_t_NoTerm, h_k_NoTerm, h_x_NoTerm, h_v_NoTerm, h_y_NoTerm, xfB_ok h_xf_NoTerm, ⟨_, _, _, _, _, _, _, _, _, _, _, _, _, _, _, _, _, _, _, _, _, _, _, _, _, _, _, _, _, _, _, _, _, h_fn_NoTerm, h_cd_NoTerm, h_lc_NoTerm, h_v2_NoTerm, h_fi_NoTerm, h_ln_NoTerm, h_ce_NoTerm⟩, PySem.W.mg_none_of X G h_sup, h_topS, h_se_NoTerm, h_up_NoTerm, h_opq, by decide, by decide, by decide, by decide, bd_value⟩
  case p_te_NoName => exact h_te_NoName
  case p_kr_NoName => exact h_kr_NoName
  case p_b_KeyError => exact PySem.W.mg_none_of X G h_b_KeyError
  case p_e_NoName => exact ⟨root_KeyError, PySem.W.mg_of X G h_g_NoName, ⟨_, _, _, _, _, _, _, _, _, _, _, _, _, _, h_l_NoName⟩, h_s_NoName, h_n_NoName, h_i_NoName, h_t_NoName, h_k_NoName, h_x_NoName, h_v_NoName, h_y_NoName, xfB_ok h_xf_NoName, ⟨_, _, _, _, _, _, _, _, _, _, _, _, _, _, _, _, _, _, _, _, _, _, _, _, _, _, _, _, _, _, _, _, _, h_fn_NoName, h_cd_NoName, h_lc_NoName, h_v2_NoName, h_fi_NoName, h_ln_NoName, h_ce_NoName⟩, PySem.W.mg_none_of X G h_sup, h_topS, h_se_NoName, h_up_NoName, h_opq, by decide, by decide, by decide, by decide, bd_who⟩
  case p_v_LETTERS => exact ⟨_, PySem.W.mg_of X G h_v_LETTERS⟩
  case p_v_DIGITS => exact ⟨_, PySem.W.mg_of X G h_v_DIGITS⟩
  case p_v_MOST_LETTERS => exact ⟨_, PySem.W.mg_of X G h_v_MOST_LETTERS⟩
  case p_is_whole => exact ⟨PySem.W.mg_of X G h_a_is_whole, fun_mk (st := s_is_whole) h_l_is_whole h_c_is_whole h_k_is_whole, (fun_mk (st := s_is_whole) h_l_is_whole h_c_is_whole h_k_is_whole).binds (ps := ["value"]) fun _ _ _ _ _ _ us hl => match us, hl with | [_], _ => rfl⟩
  case p_is_number => exact ⟨PySem.W.mg_of X G h_a_is_number, fun_mk (st := s_is_number) h_l_is_number h_c_is_number h_k_is_number, (fun_mk (st := s_is_number) h_l_is_number h_c_is_number h_k_is_number).binds (ps := ["value", "low", "high"]) fun _ _ _ _ _ _ us hl => match us, hl with | [_, _, _], _ => rfl⟩
  case p_is_word => exact ⟨PySem.W.mg_of X G h_a_is_word, fun_mk (st := s_is_word) h_l_is_word h_c_is_word h_k_is_word, (fun_mk (st := s_is_word) h_l_is_word h_c_is_word h_k_is_word).binds (ps := ["value"]) fun _ _ _ _ _ _ us hl => match us, hl with | [_], _ => rfl⟩
  case p_is_digit => exact ⟨PySem.W.mg_of X G h_a_is_digit, fun_mk (st := s_is_digit) h_l_is_digit h_c_is_digit h_k_is_digit, (fun_mk (st := s_is_digit) h_l_is_digit h_c_is_digit h_k_is_digit).binds (ps := ["value"]) fun _ _ _ _ _ _ us hl => match us, hl with | [_], _ => rfl⟩
  case p_ascending_words => exact ⟨PySem.W.mg_of X G h_a_ascending_words, fun_mk (st := s_ascending_words) h_l_ascending_words h_c_ascending_words h_k_ascending_words, (fun_mk (st := s_ascending_words) h_l_ascending_words h_c_ascending_words h_k_ascending_words).binds (ps := ["words"]) fun _ _ _ _ _ _ us hl => match us, hl with | [_], _ => rfl⟩
  case p_ascending_numbers => exact ⟨PySem.W.mg_of X G h_a_ascending_numbers, fun_mk (st := s_ascending_numbers) h_l_ascending_numbers h_c_ascending_numbers h_k_ascending_numbers, (fun_mk (st := s_ascending_numbers) h_l_ascending_numbers h_c_ascending_numbers h_k_ascending_numbers).binds (ps := ["numbers"]) fun _ _ _ _ _ _ us hl => match us, hl with | [_], _ => rfl⟩
  case p_v_MOST_DEPTH => exact ⟨_, PySem.W.mg_of X G h_v_MOST_DEPTH⟩
  case p_v_MOST_CONSTANT => exact ⟨_, PySem.W.mg_of X G h_v_MOST_CONSTANT⟩
  case p_v_SIGNS => exact PySem.W.mg_of X G h_v_SIGNS
  case p_w_SIGNS => exact fun H => .inr ⟨_, _, _, h_w_SIGNS, rfl, rfl, by show 5 ≤ sizeLine; decide, by repeat (first | exact .nil | refine .cons ⟨_, rfl⟩ ?_)⟩
  case p_word_at => exact ⟨PySem.W.mg_of X G h_a_word_at, fun_mk (st := s_word_at) h_l_word_at h_c_word_at h_k_word_at, (fun_mk (st := s_word_at) h_l_word_at h_c_word_at h_k_word_at).binds (ps := ["text", "at"]) fun _ _ _ _ _ _ us hl => match us, hl with | [_, _], _ => rfl⟩
  case p_plan_at => exact ⟨PySem.W.mg_of X G h_a_plan_at, fun_mk (st := s_plan_at) h_l_plan_at h_c_plan_at h_k_plan_at, (fun_mk (st := s_plan_at) h_l_plan_at h_c_plan_at h_k_plan_at).binds (ps := ["text", "at", "deep"]) fun _ _ _ _ _ _ us hl => match us, hl with | [_, _, _], _ => rfl⟩
  case p_text_of => exact ⟨PySem.W.mg_of X G h_a_text_of, fun_mk (st := s_text_of) h_l_text_of h_c_text_of h_k_text_of, (fun_mk (st := s_text_of) h_l_text_of h_c_text_of h_k_text_of).binds (ps := ["plan"]) fun _ _ _ _ _ _ us hl => match us, hl with | [_], _ => rfl⟩
  case p_leaves_of => exact ⟨PySem.W.mg_of X G h_a_leaves_of, fun_mk (st := s_leaves_of) h_l_leaves_of h_c_leaves_of h_k_leaves_of, (fun_mk (st := s_leaves_of) h_l_leaves_of h_c_leaves_of h_k_leaves_of).binds (ps := ["plan"]) fun _ _ _ _ _ _ us hl => match us, hl with | [_], _ => rfl⟩
  case p_value_of => exact ⟨PySem.W.mg_of X G h_a_value_of, fun_mk (st := s_value_of) h_l_value_of h_c_value_of h_k_value_of, (fun_mk (st := s_value_of) h_l_value_of h_c_value_of h_k_value_of).binds (ps := ["plan", "values"]) fun _ _ _ _ _ _ us hl => match us, hl with | [_, _], _ => rfl⟩
  case p_stands_in => exact ⟨PySem.W.mg_of X G h_a_stands_in, fun_mk (st := s_stands_in) h_l_stands_in h_c_stands_in h_k_stands_in, (fun_mk (st := s_stands_in) h_l_stands_in h_c_stands_in h_k_stands_in).binds (ps := ["plan", "whole"]) fun _ _ _ _ _ _ us hl => match us, hl with | [_, _], _ => rfl⟩
  case p_plan_of => exact ⟨PySem.W.mg_of X G h_a_plan_of, fun_mk (st := s_plan_of) h_l_plan_of h_c_plan_of h_k_plan_of, (fun_mk (st := s_plan_of) h_l_plan_of h_c_plan_of h_k_plan_of).binds (ps := ["value"]) fun _ _ _ _ _ _ us hl => match us, hl with | [_], _ => rfl⟩
  case p_g_Term => exact PySem.W.mg_of X G h_g_Term
  case p_c_Term => exact ⟨h_pg_Term, h_hd_Term, h_po_Term, h_sa_Term⟩
  case p_kp_Term => exact h_kp_Term
  case p_ty_Term => exact h_ty_Term
  case p_mo_Term => exact h_mo_Term
  case p_kit_Term_NoneType => exact h_kit_Term_NoneType
  case p_kit_Term_bool => exact h_kit_Term_bool
  case p_kit_Term_int => exact h_kit_Term_int
  case p_kit_Term_str => exact h_kit_Term_str
  case p_kit_Term_list => exact h_kit_Term_list
  case p_kit_Term_tuple => exact h_kit_Term_tuple
  case p_kit_Term_dict => exact h_kit_Term_dict
  case p_kik_Term_list => exact h_kik_Term_list
  case p_kik_Term_tuple => exact h_kik_Term_tuple
  case p_kik_Term_str => exact h_kik_Term_str
  case p_kit_Term => exact h_kit_Term
  case p_Term___init__ => exact fun_mk (st := s_Term___init__) h_l_Term___init__ h_c_Term___init__ h_k_Term___init__
  case p_b_Term___init__ => exact (fun_mk (st := s_Term___init__) h_l_Term___init__ h_c_Term___init__ h_k_Term___init__).binds (ps := ["self", "value"]) fun _ _ _ _ _ _ us hl => match us, hl with | [_, _], _ => rfl
  case p_mk_Term => exact ⟨h_mk_Term, h_a_Term___init__, h_i_Term___init__, h_kp_Term⟩
  case p_Term_choice => exact fun_mk (st := s_Term_choice) h_l_Term_choice h_c_Term_choice h_k_Term_choice
  case p_b_Term_choice => exact (fun_mk (st := s_Term_choice) h_l_Term_choice h_c_Term_choice h_k_Term_choice).binds (ps := ["one", "other", "same", "unlike"]) fun _ _ _ _ _ _ us hl => match us, hl with | [_, _, _, _], _ => rfl
  case p_m_Term_choice => exact ⟨h_r1_Term_choice, h_r2_Term_choice, h_r3_Term_choice, ⟨_, h_r4_Term_choice⟩, h_k_Term_choice⟩
  case p_Term___str__ => exact fun_mk (st := s_Term___str__) h_l_Term___str__ h_c_Term___str__ h_k_Term___str__
  case p_b_Term___str__ => exact (fun_mk (st := s_Term___str__) h_l_Term___str__ h_c_Term___str__ h_k_Term___str__).binds (ps := ["self"]) fun _ _ _ _ _ _ us hl => match us, hl with | [_], _ => rfl
  case p_m_Term___str__ => exact ⟨h_a_Term___str__, h_i_Term___str__, h_k_Term___str__⟩
  case p_fm_Term => exact h_fm_Term
  case p_Term_variables => exact fun_mk (st := s_Term_variables) h_l_Term_variables h_c_Term_variables h_k_Term_variables
  case p_b_Term_variables => exact (fun_mk (st := s_Term_variables) h_l_Term_variables h_c_Term_variables h_k_Term_variables).binds (ps := ["self"]) fun _ _ _ _ _ _ us hl => match us, hl with | [_], _ => rfl
  case p_m_Term_variables => exact ⟨h_a_Term_variables, h_i_Term_variables, h_k_Term_variables⟩
  case p_Term_constants => exact fun_mk (st := s_Term_constants) h_l_Term_constants h_c_Term_constants h_k_Term_constants
  case p_b_Term_constants => exact (fun_mk (st := s_Term_constants) h_l_Term_constants h_c_Term_constants h_k_Term_constants).binds (ps := ["self"]) fun _ _ _ _ _ _ us hl => match us, hl with | [_], _ => rfl
  case p_m_Term_constants => exact ⟨h_a_Term_constants, h_i_Term_constants, h_k_Term_constants⟩
  case p_Term_parts => exact fun_mk (st := s_Term_parts) h_l_Term_parts h_c_Term_parts h_k_Term_parts
  case p_b_Term_parts => exact (fun_mk (st := s_Term_parts) h_l_Term_parts h_c_Term_parts h_k_Term_parts).binds (ps := ["self"]) fun _ _ _ _ _ _ us hl => match us, hl with | [_], _ => rfl
  case p_m_Term_parts => exact ⟨h_a_Term_parts, h_i_Term_parts, h_k_Term_parts⟩
  case p_Term___call__ => exact fun_mk (st := s_Term___call__) h_l_Term___call__ h_c_Term___call__ h_k_Term___call__
  case p_b_Term___call__ => exact (fun_mk (st := s_Term___call__) h_l_Term___call__ h_c_Term___call__ h_k_Term___call__).binds (ps := ["self", "values"]) fun _ _ _ _ _ _ us hl => match us, hl with | [_, _], _ => rfl
  case p_m_Term___call__ => exact ⟨h_a_Term___call__, h_i_Term___call__, h_k_Term___call__⟩
  case p_o_Term___call__ => exact h_o_Term___call__
  case p_Term___eq__ => exact fun_mk (st := s_Term___eq__) h_l_Term___eq__ h_c_Term___eq__ h_k_Term___eq__
  case p_b_Term___eq__ => exact (fun_mk (st := s_Term___eq__) h_l_Term___eq__ h_c_Term___eq__ h_k_Term___eq__).binds (ps := ["self", "other"]) fun _ _ _ _ _ _ us hl => match us, hl with | [_, _], _ => rfl
  case p_m_Term___eq__ => exact ⟨h_a_Term___eq__, h_i_Term___eq__, h_k_Term___eq__⟩
  case p_nx_Term_int => exact h_nx_Term_int
  case p_nx_Term_tuple => exact h_nx_Term_tuple
  case p_nx_Term_NoneType => exact h_nx_Term_NoneType
  case p_nx_Term_bool => exact h_nx_Term_bool
  case p_nx_Term_list => exact h_nx_Term_list
  case p_nx_Term_dict => exact h_nx_Term_dict
  case p_nf_Term => exact h_nf_Term
  case p_ne_Term => exact h_ne_Term
  case p_Term_within => exact fun_mk (st := s_Term_within) h_l_Term_within h_c_Term_within h_k_Term_within
  case p_b_Term_within => exact (fun_mk (st := s_Term_within) h_l_Term_within h_c_Term_within h_k_Term_within).binds (ps := ["self", "other"]) fun _ _ _ _ _ _ us hl => match us, hl with | [_, _], _ => rfl
  case p_m_Term_within => exact ⟨h_a_Term_within, h_i_Term_within, h_k_Term_within⟩
  case p_no_Term_tree => exact h_no_Term_tree
  case p__law_pool => exact ⟨PySem.W.mg_of X G h_a__law_pool, fun_mk (st := s__law_pool) h_l__law_pool h_c__law_pool h_k__law_pool, (fun_mk (st := s__law_pool) h_l__law_pool h_c__law_pool h_k__law_pool).binds (ps := ["script", "k"]) fun _ _ _ _ _ _ us hl => match us, hl with | [_, _], _ => rfl⟩
  case p__law_take => exact ⟨PySem.W.mg_of X G h_a__law_take, fun_mk (st := s__law_take) h_l__law_take h_c__law_take h_k__law_take, (fun_mk (st := s__law_take) h_l__law_take h_c__law_take h_k__law_take).binds (ps := ["pool", "bound"]) fun _ _ _ _ _ _ us hl => match us, hl with | [_, _], _ => rfl⟩
  case p__law_one => exact ⟨PySem.W.mg_of X G h_a__law_one, fun_mk (st := s__law_one) h_l__law_one h_c__law_one h_k__law_one, (fun_mk (st := s__law_one) h_l__law_one h_c__law_one h_k__law_one).binds (ps := ["pool", "things"]) fun _ _ _ _ _ _ us hl => match us, hl with | [_, _], _ => rfl⟩
  case p__law_part => exact ⟨PySem.W.mg_of X G h_a__law_part, fun_mk (st := s__law_part) h_l__law_part h_c__law_part h_k__law_part, (fun_mk (st := s__law_part) h_l__law_part h_c__law_part h_k__law_part).binds (ps := ["pool", "things"]) fun _ _ _ _ _ _ us hl => match us, hl with | [_, _], _ => rfl⟩
  case p__law_words => exact ⟨PySem.W.mg_of X G h_a__law_words, fun_mk (st := s__law_words) h_l__law_words h_c__law_words h_k__law_words, (fun_mk (st := s__law_words) h_l__law_words h_c__law_words h_k__law_words).binds (ps := ["pool", "bound"]) fun _ _ _ _ _ _ us hl => match us, hl with | [_, _], _ => rfl⟩
  case p__law_tree => exact ⟨PySem.W.mg_of X G h_a__law_tree, fun_mk (st := s__law_tree) h_l__law_tree h_c__law_tree h_k__law_tree, (fun_mk (st := s__law_tree) h_l__law_tree h_c__law_tree h_k__law_tree).binds (ps := ["pool", "words", "digits", "deep"]) fun _ _ _ _ _ _ us hl => match us, hl with | [_, _, _, _], _ => rfl⟩
  case p__law_tree_text => exact ⟨PySem.W.mg_of X G h_a__law_tree_text, fun_mk (st := s__law_tree_text) h_l__law_tree_text h_c__law_tree_text h_k__law_tree_text, (fun_mk (st := s__law_tree_text) h_l__law_tree_text h_c__law_tree_text h_k__law_tree_text).binds (ps := ["tree"]) fun _ _ _ _ _ _ us hl => match us, hl with | [_], _ => rfl⟩
  case p__law_tree_leaves => exact ⟨PySem.W.mg_of X G h_a__law_tree_leaves, fun_mk (st := s__law_tree_leaves) h_l__law_tree_leaves h_c__law_tree_leaves h_k__law_tree_leaves, (fun_mk (st := s__law_tree_leaves) h_l__law_tree_leaves h_c__law_tree_leaves h_k__law_tree_leaves).binds (ps := ["tree"]) fun _ _ _ _ _ _ us hl => match us, hl with | [_], _ => rfl⟩
  case p__law_tree_words => exact ⟨PySem.W.mg_of X G h_a__law_tree_words, fun_mk (st := s__law_tree_words) h_l__law_tree_words h_c__law_tree_words h_k__law_tree_words, (fun_mk (st := s__law_tree_words) h_l__law_tree_words h_c__law_tree_words h_k__law_tree_words).binds (ps := ["tree"]) fun _ _ _ _ _ _ us hl => match us, hl with | [_], _ => rfl⟩
  case p__law_tree_digits => exact ⟨PySem.W.mg_of X G h_a__law_tree_digits, fun_mk (st := s__law_tree_digits) h_l__law_tree_digits h_c__law_tree_digits h_k__law_tree_digits, (fun_mk (st := s__law_tree_digits) h_l__law_tree_digits h_c__law_tree_digits h_k__law_tree_digits).binds (ps := ["tree"]) fun _ _ _ _ _ _ us hl => match us, hl with | [_], _ => rfl⟩
  case p__law_tree_worth => exact ⟨PySem.W.mg_of X G h_a__law_tree_worth, fun_mk (st := s__law_tree_worth) h_l__law_tree_worth h_c__law_tree_worth h_k__law_tree_worth, (fun_mk (st := s__law_tree_worth) h_l__law_tree_worth h_c__law_tree_worth h_k__law_tree_worth).binds (ps := ["tree", "held"]) fun _ _ _ _ _ _ us hl => match us, hl with | [_, _], _ => rfl⟩
  case p__law_told => exact ⟨PySem.W.mg_of X G h_a__law_told, fun_mk (st := s__law_told) h_l__law_told h_c__law_told h_k__law_told, (fun_mk (st := s__law_told) h_l__law_told h_c__law_told h_k__law_told).binds (ps := ["term", "held"]) fun _ _ _ _ _ _ us hl => match us, hl with | [_, _], _ => rfl⟩
  case p__law_due => exact ⟨PySem.W.mg_of X G h_a__law_due, fun_mk (st := s__law_due) h_l__law_due h_c__law_due h_k__law_due, (fun_mk (st := s__law_due) h_l__law_due h_c__law_due h_k__law_due).binds (ps := ["tree", "held"]) fun _ _ _ _ _ _ us hl => match us, hl with | [_, _], _ => rfl⟩
  case p__law_moved_right => exact ⟨PySem.W.mg_of X G h_a__law_moved_right, fun_mk (st := s__law_moved_right) h_l__law_moved_right h_c__law_moved_right h_k__law_moved_right, (fun_mk (st := s__law_moved_right) h_l__law_moved_right h_c__law_moved_right h_k__law_moved_right).binds (ps := ["tree", "held", "digits"]) fun _ _ _ _ _ _ us hl => match us, hl with | [_, _, _], _ => rfl⟩
  case p_law => exact ⟨PySem.W.mg_of X G h_a_law, fun_mk (st := s_law) h_l_law h_c_law h_k_law, (fun_mk (st := s_law) h_l_law h_c_law h_k_law).binds (ps := ["script"]) fun _ _ _ _ _ _ us hl => match us, hl with | [_], _ => rfl⟩
  case p_blaw => exact fun s v => .of_eq rfl
  case p_tq_NoName_NoTerm => exact h_tq_NoName_NoTerm
  case p_tq_NoTerm_NoName => exact h_tq_NoTerm_NoName
  case p_ki_NoName_TiedError => exact h_ki_NoName_TiedError
  case p_ki_TiedError_TiedError => exact h_ki_TiedError_TiedError
  case p_xc_NoName => exact h_xc_NoName
  case p_xm_NoName => exact h_xm_NoName
  case p_xi_NoName => exact h_xi_NoName
  case p_xc_NoTerm => exact h_xc_NoTerm
  case p_xm_NoTerm => exact h_xm_NoTerm
  case p_xi_NoTerm => exact h_xi_NoTerm
  case p_bi => exact ⟨PySem.W.mg_none_of X G h_b_len, PySem.W.mg_none_of X G h_b_max, PySem.W.mg_none_of X G h_b_min, PySem.W.mg_none_of X G h_b_int, PySem.W.mg_none_of X G h_b_str, PySem.W.mg_none_of X G h_b_tuple, PySem.W.mg_none_of X G h_b_list, PySem.W.mg_none_of X G h_b_bool, PySem.W.mg_none_of X G h_b_dict, PySem.W.mg_none_of X G h_b_set, PySem.W.mg_none_of X G h_b_isinstance, PySem.W.mg_none_of X G h_b_sorted, PySem.W.mg_none_of X G h_b_repr, PySem.W.mg_none_of X G h_b_range, PySem.W.mg_none_of X G h_b_enumerate, PySem.W.mg_none_of X G h_b_zip, PySem.W.mg_none_of X G h_b_sum, PySem.W.mg_none_of X G h_b_all, PySem.W.mg_none_of X G h_b_any⟩
  case p_tn => exact h_tn
  case p_tt => exact h_tt
end Z
set_option maxRecDepth 100000
set_option maxHeartbeats 4000000
namespace Z
open PySem PySem.Spec PyProof.Rows L2
section
variable {P : Program} {w : World} {K : PySem.W.Frag} {mg : Str → Option Value} {base : Heap} {a : Ad}
def spWhole (K : PySem.W.Frag) : Sp := fun vs H Q _ => ∃ (x : V) (t : String) (r1 r2 : Bool), vs = [x] ∧ TyX K H x (.type t) ∧ kitB t "int" = some r1 ∧ kitB t "bool" = some r2 ∧ Q (.bl (r1 && !r2)) H
theorem ok_whole (T : Tx P K mg a) : FnOk P w K mg base CX0 1 a.f_is_whole a.d_is_whole ["value"] (spWhole K) := by
  refine T.is_whole.fn.ok sc_is_whole (fun vs H Q E h => ?_) (fun cdv A outer s H vs Q E hr h => ?_)
  · obtain ⟨x, t, r1, r2, rfl, _⟩ := h
    rfl
  · obtain ⟨x, t, r1, r2, rfl, ty, k1, k2, q⟩ := h
    refine ⟨_, (pss_one (ps_ret (pe_and (cb_isi T.bi (pa_cons (pv 0) (pa_cons (gl_ty rfl T.bi.int PyProof.Rows.boot_int) pa_nil))) (pe_one (pe_not (cb_isi T.bi (pa_cons (pv 0) (pa_cons (gl_ty rfl T.bi.bool PyProof.Rows.boot_bool) pa_nil)))))))), ?_⟩
    refine ⟨_, rfl, isiTy ty k1 ?_⟩
    cases r1 with
    | true =>
      refine ⟨_, rfl, ?_⟩
      refine ⟨_, rfl, isiTy ty k2 ?_⟩
      exact ⟨_, rfl, q⟩
    | false => exact ⟨_, rfl, q⟩
def spNumber (K : PySem.W.Frag) : Sp := fun vs H Q _ => ∃ (x : V) (lo hi : Int), vs = [x, .int lo, .int hi] ∧ ((∃ n, x = .int n ∧ Q (.bl (decide (lo ≤ n) && decide (n ≤ hi))) H) ∨ (∃ (t : String) (r1 r2 : Bool), TyX K H x (.type t) ∧ kitB t "int" = some r1 ∧ kitB t "bool" = some r2 ∧ (r1 && !r2) = false ∧ Q (.bl false) H))
theorem ok_number (T : Tx P K mg a) : FnOk P w K mg base CX0 2 a.f_is_number a.d_is_number ["value", "low", "high"] (spNumber K) := by
  have F1 : FnOk P w K mg base CX0 1 a.f_is_whole a.d_is_whole ["value"] (spWhole K) := ok_whole T
  refine T.is_number.fn.ok sc_is_number (fun vs H Q E h => ?_) (fun cdv A outer s H vs Q E hr h => ?_)
  · obtain ⟨x, lo, hi, rfl, _⟩ := h
    rfl
  · obtain ⟨x, lo, hi, rfl, h⟩ := h
    refine ⟨_, (pss_one (ps_ret (pe_and (pe_cf T.is_whole F1 hr (pa_cons (pv 0) pa_nil)) (pe_one (pe_chain op_le op_le (pv 1) (pv 0) (pv 2)))))), ?_⟩
    rcases h with ⟨n, rfl, q⟩ | ⟨t, r1, r2, ty, k1, k2, e, q⟩
    · refine ⟨_, rfl, _, "int", true, false, rfl, .base (.int n), k_ii, k_ib, ?_⟩
      refine ⟨_, rfl, ?_⟩
      refine ⟨_, rfl, _, rfl, lo, n, rfl, rfl, _, rfl, ?_⟩
      by_cases h1 : lo ≤ n
      · rw [decide_eq_true h1]
        refine ⟨_, rfl, n, hi, rfl, rfl, ?_⟩
        rw [decide_eq_true h1, Bool.true_and] at q
        exact q
      · rw [decide_eq_false h1]
        rw [decide_eq_false h1, Bool.false_and] at q
        exact q
    · refine ⟨_, rfl, _, t, r1, r2, rfl, ty, k1, k2, ?_⟩
      rw [e]
      exact ⟨_, rfl, q⟩
def spWord : Sp := fun vs H Q _ => ∃ z : Str, vs = [.str z] ∧ z.length ≤ sizeLine ∧ ∀ H', Same H H' → Q (.bl (wordB (ls z))) H'
theorem ok_word (T : Tx P K mg a) : FnOk P w K mg base CX0 1 a.f_is_word a.d_is_word ["value"] spWord := by
  refine T.is_word.fn.ok sc_is_word (fun vs H Q E h => ?_) (fun cdv A outer s H vs Q E hr h => ?_)
  · obtain ⟨z, rfl, _⟩ := h
    rfl
  · obtain ⟨z, rfl, hz, q⟩ := h
    have nd := sc_is_word.nd
    refine ⟨_, (pss_cons (ps_if (PW.pt (pw_or (pt_not (pt_val (cb_isi T.bi (pa_cons (pv 0) (pa_cons (gl_ty rfl T.bi.str PyProof.Rows.boot_str) pa_nil))))) (pw_or1 (pt_not (pt_chain op_le op_le pe_int (cb_len T.bi (pa_cons (pv 0) pa_nil)) (pe_gi T.v_MOST_LETTERS))))))
      (pss_one (ps_ret pe_bl)) pss_nil)
      (pss_one (ps_ret (pe_cmpR (op_eqX hr) (pe_lc (own := [("sign", 1)]) (by rfl) nd (pi_str (pv 0)) (blkOk_by (own := [("sign", 1)]) (N := ["value", "sign"]) (sc := defScope s_is_word) (by decide +kernel)) (fun _ _ _ _ _ => (pg_name (i := 1) nd rfl (Or.inl rfl))) (fun _ _ _ _ _ => pts_one (pt_cmpR (op_notInA (K := K)) (pv 1) (pe_gs T.v_LETTERS) rfl)) (fun _ _ _ _ _ => (pv 1))) (pe_lst pa_nil) (nomark _))))), ?_⟩
    refine ⟨_, rfl, isiTy (.base (.str z)) k_ss ?_⟩
    refine ⟨_, rfl, ?_⟩
    refine ⟨_, rfl, lenS hz ?_⟩
    refine ⟨1, _, rfl, rfl, _, rfl, ?_⟩
    have L : (z.length : Int) = ((ls z).length : Int) := by rw [ls_len]
    by_cases h1 : (1 : Int) ≤ (z.length : Int)
    · rw [decide_eq_true h1]
      refine ⟨_, 8, rfl, rfl, ?_⟩
      by_cases h2 : (z.length : Int) ≤ 8
      · refine ⟨_, rfl, ?_⟩
        rw [decide_eq_true h2]
        have hw : wordB (ls z) = (ls z).all isLB := by
          unfold wordB
          rw [decide_eq_true (show 1 ≤ (ls z).length by omega), decide_eq_true (show (ls z).length ≤ 8 by omega)]
          rfl
        refine ⟨_, rfl, z, rfl, fun D hD => ?_⟩
        refine lc_it (walk_str (z := z)) (fun i H' => ∃ acc : List V, H' D = some (.lst acc) ∧ Same H H' ∧ acc.length ≤ i ∧ acc.isEmpty = ((ls z).take i).all isLB) ⟨[], upd_same, sNew hD, Nat.le_refl _, rfl⟩ (fun _ _ _ _ => trivial) ?_ ?_
        · rintro i x H1 H1' hi ⟨acc, hA, sm, ln, em⟩ ⟨rfl, c, hc, rfl⟩
          refine ⟨rfl, _, rfl, ninSgn ?_⟩
          have hc' : (ls z)[i]? = some c := by
            show z.cps.toList[i]? = some c
            rw [Array.getElem?_toList]
            exact hc
          have tk : (ls z).take (i + 1) = (ls z).take i ++ [c] := by rw [List.take_succ, hc']; rfl
          refine ⟨_, rfl, ?_⟩
          rw [mem_let']
          cases hl : isLB c with
          | true => exact ⟨acc, hA, sm, Nat.le_succ_of_le ln, by rw [tk, List.all_append, ← em]; simp [hl]⟩
          | false =>
            have small : acc.length < sizeLine := by
              have : i < z.length := hi
              omega
            refine ⟨_, rfl, acc, hA, small, acc ++ [.str ⟨#[c]⟩], upd_same, fun b o e => ?_, by rw [List.length_append]; exact Nat.succ_le_succ ln, ?_⟩
            · rw [upd_ne (ne_of_none e hD)]
              exact sm b o e
            · rw [tk, List.all_append]
              simp [hl]
        · rintro H1 ⟨acc, hA, sm, ln, em⟩
          refine ⟨Nat.zero_le _, fun p hp => ?_⟩
          refine eqL0 (.inl (.inl (by rw [upd_ne (ne_of_none hA hp)]; exact hA))) upd_same ?_
          have : (ls z).take z.cps.size = ls z := List.take_of_length_le (by simp [ls])
          rw [em, this, ← hw]
          exact q _ (sm.trans (sNew hp))
      · refine ⟨_, rfl, ?_⟩
        rw [decide_eq_false h2]
        have hw : wordB (ls z) = false := by
          unfold wordB
          rw [decide_eq_false (show ¬ (ls z).length ≤ 8 by omega), Bool.and_false, Bool.false_and]
        rw [hw] at q
        exact q _ (fun _ _ e => e)
    · rw [decide_eq_false h1]
      have hw : wordB (ls z) = false := by
        unfold wordB
        rw [decide_eq_false (show ¬ 1 ≤ (ls z).length by omega), Bool.false_and, Bool.false_and]
      rw [hw] at q
      exact ⟨_, rfl, q _ (fun _ _ e => e)⟩
def spDigit : Sp := fun vs H Q _ => ∃ c : Nat, vs = [.str (tx [c])] ∧ Q (.bl (isDB c)) H
theorem ok_digit (T : Tx P K mg a) : FnOk P w K mg base CX0 1 a.f_is_digit a.d_is_digit ["value"] spDigit := by
  refine T.is_digit.fn.ok sc_is_digit (fun vs H Q E h => ?_) (fun cdv A outer s H vs Q E hr h => ?_)
  · obtain ⟨z, rfl, _⟩ := h
    rfl
  · obtain ⟨c, rfl, q⟩ := h
    refine ⟨_, (pss_one (ps_ret (pe_and (cb_isi T.bi (pa_cons (pv 0) (pa_cons (gl_ty rfl T.bi.str PyProof.Rows.boot_str) pa_nil))) (pe_and (pe_cmpR (op_eqX hr) (cb_len T.bi (pa_cons (pv 0) pa_nil)) pe_int (nomark _)) (pe_one (pe_cmpR op_inA (pv 0) (pe_gs T.v_DIGITS) rfl)))))), ?_⟩
    refine ⟨_, rfl, isiTy (.base (.str _)) k_ss ?_⟩
    refine ⟨_, rfl, ?_⟩
    refine ⟨_, rfl, lenS (by rw [tx_len]; show 1 ≤ sizeLine; decide) ?_⟩
    refine eqI ?_
    rw [tx_len]
    refine ⟨_, rfl, ?_⟩
    refine ⟨_, rfl, inSgn ?_⟩
    rw [mem_dig']
    exact q
theorem take_next {l : List Nat} {i : Nat} {c : Nat} (h : l[i]? = some c) : l.drop i = c :: l.drop (i + 1) := by
  obtain ⟨h1, h2⟩ := List.getElem?_eq_some_iff.mp h
  rw [List.drop_eq_getElem_cons h1, h2]
def spWordAt : Sp := fun vs H Q _ => ∃ (z : Str) (i : Nat), vs = [.str z, .int i] ∧ i ≤ z.length ∧ z.length ≤ sizeLine ∧ Q (.str (tx (((ls z).drop i).takeWhile isLB))) H
theorem ok_word_at (T : Tx P K mg a) : FnOk P w K mg base CX0 1 a.f_word_at a.d_word_at ["text", "at"] spWordAt := by
  refine T.word_at.fn.ok sc_word_at (fun vs H Q E h => ?_) (fun cdv A outer s H vs Q E hr h => ?_)
  · obtain ⟨z, i, rfl, _⟩ := h
    rfl
  · obtain ⟨z, i, rfl, hi, hz, q⟩ := h
    have nd := sc_word_at.nd
    refine ⟨_, (pss_cons (ps_set (i := 2) nd rfl (Or.inl rfl) (pv 1))
      (pss_cons (ps_while PassesOwn.never (PW.pt (pw_and (pt_cmpR op_lt (pv 2) (cb_len T.bi (pa_cons (pv 0) pa_nil)) (nomark _)) (pw_and1 (pt_cmpR op_inA (pe_ix ix_A (pv 0) (pv 2) (fun _ _ => rfl)) (pe_gs T.v_LETTERS) rfl))))
        (pss_one (ps_aug (i := 2) nd rfl (Or.inl rfl) pe_int ip_add)))
      (pss_one (ps_ret (pe_slice sl_str (pv 0) (po_some (pv 1)) (po_some (pv 2))))))), ?_⟩
    refine ⟨_, rfl, ?_⟩
    refine ⟨fun m σ H' => ∃ j : Nat, m = z.length - j ∧ i ≤ j ∧ j ≤ z.length ∧ H' = H ∧ σ = [some (.str z), some (.int (i : Nat)), some (.int (j : Nat))] ∧ ((ls z).drop i).takeWhile isLB = ((ls z).drop i).take (j - i) ++ ((ls z).drop j).takeWhile isLB,
      ⟨_, i, rfl, Nat.le_refl _, hi, rfl, rfl, by rw [Nat.sub_self]; rfl⟩, ?_⟩
    rintro m σ H' ⟨j, rfl, hij, hj, rfl, rfl, tw⟩
    refine ⟨_, rfl, _, rfl, lenS hz ?_⟩
    have fin : ((ls z).drop j).takeWhile isLB = [] → Q (.str (cutS z (some (i : Nat)) (some (j : Nat)))) H' := fun e => by
      have : cutS z (some (i : Nat)) (some (j : Nat)) = tx (((ls z).drop i).takeWhile isLB) := by
        rw [tw, e, List.append_nil]
        unfold cutS tx
        rw [HT.sIx_nat, HT.sIx_nat, Nat.min_eq_left hi, Nat.min_eq_left hj]
        rfl
      rw [this]
      exact q
    refine ⟨_, _, rfl, rfl, _, rfl, ?_⟩
    by_cases hl : j < z.length
    · rw [decide_eq_true (Int.ofNat_lt.mpr hl)]
      obtain ⟨c, hc⟩ : ∃ c, (ls z)[j]? = some c := ⟨_, List.getElem?_eq_getElem (by rw [ls_len]; exact hl)⟩
      refine ⟨_, rfl, _, rfl, ixS hz hc ?_⟩
      refine inSgn ?_
      rw [mem_let']
      have dj := take_next hc
      refine ⟨_, rfl, ?_⟩
      cases lb : isLB c with
      | true =>
        refine ⟨_, fun σ' H' h => h, ?_⟩
        refine ⟨_, rfl, _, _, rfl, rfl, ?_⟩
        refine ⟨z.length - (j + 1), by omega, j + 1, rfl, by omega, hl, rfl, by simp, ?_⟩
        rw [tw, dj, List.takeWhile_cons, if_pos lb]
        rw [show j + 1 - i = (j - i) + 1 by omega, List.take_succ]
        have : ((ls z).drop i)[j - i]? = some c := by
          rw [List.getElem?_drop, show i + (j - i) = j by omega]
          exact hc
        rw [this]
        simp
      | false =>
        refine ⟨_, rfl, _, rfl, _, rfl, _, rfl, _, rfl, z, rfl, hz, ?_⟩
        exact fin (by rw [dj, List.takeWhile_cons, lb]; rfl)
    · rw [decide_eq_false (fun h => hl (Int.ofNat_lt.mp h))]
      exact ⟨_, rfl, _, rfl, _, rfl, _, rfl, _, rfl, z, rfl, hz, fin (by rw [List.drop_eq_nil_of_le (by rw [ls_len]; omega)]; rfl)⟩
end
end Z
set_option maxRecDepth 100000
set_option maxHeartbeats 4000000
namespace Z
open PySem PySem.Spec PyProof.Rows L2
theorem tx1 {a b : Nat} : tx [a] = tx [b] ↔ a = b := by
  constructor
  · intro h
    have := congrArg ls h
    rw [ls_tx, ls_tx] at this
    simpa using this
  · rintro rfl
    rfl
theorem dig_int {c : Nat} (h : isDB c = true) : PySem.intText? (tx [c]) = some ((c : Int) - 48) := by
  have : c = 48 ∨ c = 49 ∨ c = 50 ∨ c = 51 ∨ c = 52 ∨ c = 53 ∨ c = 54 ∨ c = 55 ∨ c = 56 ∨ c = 57 := by
    unfold isDB at h
    simp at h
    omega
  rcases this with rfl | rfl | rfl | rfl | rfl | rfl | rfl | rfl | rfl | rfl <;> decide +kernel
theorem drop_word {l : List Nat} {i : Nat} {p : Nat → Bool} : l.drop (i + ((l.drop i).takeWhile p).length) = (l.drop i).dropWhile p := by
  rw [← List.drop_drop]
  have := List.takeWhile_append_dropWhile (p := p) (l := l.drop i)
  conv => lhs; arg 2; rw [← this]
  exact List.drop_left
def Got (K : PySem.W.Frag) (H : Hp) (z : Str) (v : V) : Option (Tr × List Nat) → Prop
  | none => v = .non
  | some (t, r) => ∃ (p : Addr) (j : Nat) (u : V), v = .ref p ∧ j ≤ z.length ∧ (ls z).drop j = r ∧ H p = some (.tup [u, .int (j : Nat)]) ∧ Dp K H u t.d
def spPlanAt (K : PySem.W.Frag) (d : Nat) : Sp := fun vs H Q _ => ∃ (z : Str) (i : Nat), vs = [.str z, .int (i : Nat), .int (d : Nat)] ∧ i ≤ z.length ∧ z.length ≤ sizeLine ∧ 1 ≤ d ∧ ∀ v H', Same H H' → Got K H' z v (pl d ((ls z).drop i)) → Q v H'
def codes : List Nat := [61, 63, 58, 41]
def plm (us : List Tr) : Option (List Tr × List Nat) → Option (List Tr × List Nat)
  | some (ts, q) => some (us ++ ts, q)
  | none => none
theorem dpAll_tk {K : PySem.W.Frag} {H H' : Hp} (k : TK H H') : ∀ {us : List V} {ts : List Tr}, DpAll K H us (ts.map Tr.d) → DpAll K H' us (ts.map Tr.d)
  | _, [], h => by
    cases h
    exact .nil
  | _, t :: ts, h => by
    cases h with
    | cons h1 h2 => exact .cons (tr_tk k t h1) (dpAll_tk k h2)
section
variable {P : Program} {w : World} {K : PySem.W.Frag} {mg : Str → Option Value} {base : Heap} {a : Ad}
theorem fnNo {CX : CXT} {k : Nat} {f : Addr} {fd : FuncData} {ps : List Str} {sp : Sp} (h : ∀ vs H Q E, sp vs H Q E → False) : FnOk P w K mg base CX k f fd ps sp :=
  ⟨fun vs H Q E z => (h _ _ _ _ z).elim, fun A outer s H args us vs Q E _ _ _ _ z => (h _ _ _ _ z).elim⟩
theorem ok_plan_at (T : Tx P K mg a) : ∀ d : Nat, FnOk P w K mg base CX0 (d + 1) a.f_plan_at a.d_plan_at ["text", "at", "deep"] (spPlanAt K d)
  | 0 => fnNo fun vs H Q E ⟨z, i, _, _, _, h, _⟩ => by omega
  | d + 1 => by
    have IH : FnOk P w K mg base CX0 (d + 1) a.f_plan_at a.d_plan_at ["text", "at", "deep"] (spPlanAt K d) := ok_plan_at T d
    have Fd : FnOk P w K mg base CX0 1 a.f_is_digit a.d_is_digit ["value"] spDigit := ok_digit T
    have Fw : FnOk P w K mg base CX0 1 a.f_is_word a.d_is_word ["value"] spWord := ok_word T
    have Fa : FnOk P w K mg base CX0 1 a.f_word_at a.d_word_at ["text", "at"] spWordAt := ok_word_at T
    refine T.plan_at.fn.ok sc_plan_at (fun vs H Q E h => ?_) (fun cdv A outer s H vs Q E hr h => ?_)
    · obtain ⟨z, i, rfl, _⟩ := h
      rfl
    · obtain ⟨z, i, rfl, hi, hz, _, q⟩ := h
      have nd := sc_plan_at.nd
      have hr1 : Room 1 _ := hr.mono (by omega)
      refine ⟨_, (pss_cons (ps_if (PW.pt (pw_and (pt_cmpR op_lt (pv 1) (cb_len T.bi (pa_cons (pv 0) pa_nil)) (nomark _)) (pw_and1 (pt_val (pe_cf T.is_digit Fd hr1 (pa_cons (pe_ix ix_A (pv 0) (pv 1) (fun _ _ => rfl)) pa_nil))))))
        (pss_one (ps_ret (pe_tup (pa_cons (cb_int T.bi (pa_cons (pe_ix ix_A (pv 0) (pv 1) (fun _ _ => rfl)) pa_nil)) (pa_cons (pe_op op_addA (pv 1) pe_int) pa_nil))))) pss_nil)
        (pss_cons (ps_set (i := 3) nd rfl (Or.inl rfl) (pe_cf T.word_at Fa hr1 (pa_cons (pv 0) (pa_cons (pv 1) pa_nil))))
        (pss_cons (ps_if (pt_val (pe_cf T.is_word Fw hr1 (pa_cons (pv 3) pa_nil)))
          (pss_one (ps_ret (pe_tup (pa_cons (pv 3) (pa_cons (pe_op op_addA (pv 1) (cb_len T.bi (pa_cons (pv 3) pa_nil))) pa_nil))))) pss_nil)
        (pss_cons (ps_if (PW.pt (pw_or (pt_cmpR op_ge (pv 1) (cb_len T.bi (pa_cons (pv 0) pa_nil)) (nomark _)) (pw_or (pt_cmpR (op_neX hr) (pe_ix ix_A (pv 0) (pv 1) (fun _ _ => rfl)) (pe_ix ix_A (pe_gr T.v_SIGNS) pe_int (fun _ _ => rfl)) (nomark _)) (pw_or1 (pt_cmpR (op_eqX hr) (pv 2) pe_int (nomark _))))))
          (pss_one (ps_ret pe_non)) pss_nil)
        (pss_cons (ps_set (i := 4) nd rfl (Or.inl rfl) (pe_lst pa_nil))
        (pss_cons (ps_for PassesOwn.never rfl (pi_tup (pe_slice sl_tupA (pe_gr T.v_SIGNS) (po_some pe_int) po_none)) (pg_name (i := 5) nd rfl (Or.inl rfl))
          (pss_cons (ps_set (i := 6) nd rfl (Or.inl rfl) (pe_cf T.plan_at IH hr (pa_cons (pv 0) (pa_cons (pe_op op_addA (pv 1) pe_int) (pa_cons (pe_op op_sub (pv 2) pe_int) pa_nil)))))
          (pss_cons (ps_if (PW.pt (pw_or (pt_cmp (pc_isN (pv 6))) (pw_or (pt_cmpR op_ge (pe_ix ix_A (pv 6) pe_int (fun _ _ => rfl)) (cb_len T.bi (pa_cons (pv 0) pa_nil)) (nomark _)) (pw_or1 (pt_cmpR (op_neX hr) (pe_ix ix_A (pv 0) (pe_ix ix_A (pv 6) pe_int (fun _ _ => rfl)) (fun _ _ => rfl)) (pv 5) (nomark _))))))
            (pss_one (ps_ret pe_non)) pss_nil)
          (pss_cons (ps_asg (pv 6) (pg_tup rfl (pgs_cons (pg_name (i := 7) nd rfl (Or.inl rfl)) (pgs_cons (pg_name (i := 1) nd rfl (Or.inl rfl)) pgs_nil))))
          (pss_one (ps_expr (pe_bm PySem.F.plainAttrs_list PySem.F.slot_list_append PySem.F.type_list_append mt_append (pv 4) (pa_cons (pv 7) pa_nil))))))))
        (pss_one (ps_ret (pe_tup (pa_cons (cb_tuple T.bi (pa_cons (pv 4) pa_nil)) (pa_cons (pe_op op_addA (pv 1) pe_int) pa_nil))))))))))), ?_⟩
      refine ⟨_, rfl, _, rfl, lenS hz ?_⟩
      refine ⟨_, _, rfl, rfl, _, rfl, ?_⟩
      by_cases hl : i < z.length
      · rw [decide_eq_true (Int.ofNat_lt.mpr hl)]
        obtain ⟨c, hc⟩ : ∃ c, (ls z)[i]? = some c := ⟨_, List.getElem?_eq_getElem (by rw [ls_len]; exact hl)⟩
        have dj := take_next hc
        rw [dj] at q
        refine ⟨_, rfl, _, rfl, ixS hz hc ?_⟩
        refine ⟨c, rfl, ?_⟩
        refine ⟨_, rfl, ?_⟩
        have e1 : (i : Int) + 1 = ((i + 1 : Nat) : Int) := rfl
        cases hd : isDB c with
        | true =>
          refine ⟨_, rfl, _, rfl, ixS hz hc ?_⟩
          refine intS (dig_int hd) (by rw [tx_len]; show 1 ≤ 640; decide) ?_
          refine ⟨_, rfl, ?_⟩
          refine addI ?_
          refine ⟨by show 2 ≤ sizeLine; decide, fun p hp => ?_⟩
          refine q _ _ (sNew hp) ?_
          unfold pl
          rw [if_pos hd]
          exact ⟨p, i + 1, _, rfl, hl, rfl, upd_same, .int _⟩
        | false =>
          refine ⟨_, rfl, _, rfl, z, i, rfl, hi, hz, ?_⟩
          rw [dj]
          generalize hw : (c :: (ls z).drop (i + 1)).takeWhile isLB = l
          have ll : l.length ≤ z.length := by
            have h1 := (List.takeWhile_sublist (p := isLB) (l := c :: (ls z).drop (i + 1))).length_le
            rw [hw, ← dj, List.length_drop, ls_len] at h1
            omega
          refine ⟨_, rfl, tx l, rfl, by rw [tx_len]; omega, fun H1 s1 => ?_⟩
          refine ⟨_, rfl, ?_⟩
          rw [ls_tx]
          cases hwb : wordB l with
          | true =>
            refine ⟨_, rfl, _, rfl, _, rfl, lenS (by rw [tx_len]; omega) ?_⟩
            refine addI ?_
            refine ⟨by show 2 ≤ sizeLine; decide, fun p hp => ?_⟩
            refine q _ _ (s1.trans (sNew hp)) ?_
            unfold pl
            rw [if_neg (by rw [hd]; exact Bool.false_ne_true), hw, if_pos hwb]
            refine ⟨p, i + l.length, _, rfl, ?_, ?_, ?_, .str _⟩
            · have h1 := (List.takeWhile_sublist (p := isLB) (l := c :: (ls z).drop (i + 1))).length_le
              rw [hw, ← dj, List.length_drop, ls_len] at h1
              omega
            · rw [← hw, ← dj]
              exact drop_word
            · rw [tx_len, upd_same]
              rfl
          | false =>
            have plk : pl (d + 1) (c :: (ls z).drop (i + 1)) = if c ≠ 40 ∨ d = 0 then none else plx (plp (pl d) codes ((ls z).drop (i + 1))) := by
              conv => lhs; unfold pl
              rw [if_neg (by rw [hd]; exact Bool.false_ne_true), hw, if_neg (by rw [hwb]; exact Bool.false_ne_true)]
              rfl
            refine ⟨_, rfl, _, rfl, lenS hz ?_⟩
            refine ⟨_, _, rfl, rfl, _, rfl, ?_⟩
            rw [decide_eq_false (show ¬ (z.length : Int) ≤ (i : Int) by omega)]
            refine ⟨_, rfl, _, rfl, ixS hz hc ?_⟩
            refine ixT (i := 0) (T.w_SIGNS _) rfl ?_
            refine neS ?_
            refine ⟨_, rfl, ?_⟩
            by_cases h40 : c = 40
            · subst h40
              rw [decide_eq_true (show tx [40] = ("(" : Str) by decide +kernel)]
              refine ⟨_, rfl, eqI ?_⟩
              refine ⟨_, rfl, ?_⟩
              by_cases h0 : d = 0
              · subst h0
                refine q _ _ s1 ?_
                rw [plk, if_pos (.inr rfl)]
                rfl
              · rw [decide_eq_false (show ¬ ((d + 1 : Nat) : Int) = 1 by omega)]
                rw [plk, if_neg (by omega)] at q
                refine ⟨Nat.zero_le _, fun l0 hl0 => ?_⟩
                refine ⟨1, rfl, a.v_SIGNS, [V.str "(", .str "=", .str "?", .str ":", .str ")"], rfl, T.w_SIGNS _, fun h => absurd h.1 (by decide), fun _ p0 hp0 => ?_⟩
                have cv : cutV [V.str "(", .str "=", .str "?", .str ":", .str ")"] (some 1) none = [V.str "=", .str "?", .str ":", .str ")"] := rfl
                rw [cv]
                have s2 : Same H (upd (upd H1 l0 (.lst [])) p0 (.tup [V.str "=", .str "?", .str ":", .str ")"])) := (s1.trans (sNew hl0)).trans (sNew hp0)
                have n0 : l0 ≠ p0 := ne_of_none (H := upd H1 l0 (.lst [])) upd_same hp0
                refine ⟨p0, rfl, ⟨_, .inl (.inl upd_same)⟩, ?_⟩
                refine for_it (walk_tup (xs := [V.str "=", .str "?", .str ":", .str ")"])) (fun n σ H' => ∃ (ts : List Tr) (us : List V) (j : Nat) (o5 o6 o7 : Option V), σ = [some (.str z), some (.int (j : Nat)), some (.int ((d + 1 : Nat) : Int)), some (.str (tx l)), some (.ref l0), o5, o6, o7] ∧
                    H' l0 = some (.lst us) ∧ DpAll K H' us (ts.map Tr.d) ∧ ts.length = n ∧ j < z.length ∧ Same H H' ∧ H' p0 = some (.tup [V.str "=", .str "?", .str ":", .str ")"]) ∧
                    plp (pl d) codes ((ls z).drop (i + 1)) = plm ts (plp (pl d) (codes.drop n) ((ls z).drop (j + 1))))
                  ⟨[], [], i, none, none, none, rfl, by rw [upd_ne n0, upd_same], .nil, rfl, hl, s2, upd_same, ?_⟩ (fun n σ H' _ ⟨ts, us, j, o5, o6, o7, _, _, _, _, _, _, hp, _⟩ => .inl (.inl hp)) ?_ ?_
                · show _ = plm [] (plp (pl d) codes ((ls z).drop (i + 1)))
                  cases plp (pl d) codes ((ls z).drop (i + 1)) with
                  | none => rfl
                  | some x => rfl
                · rintro n x σ H2 H2' hn ⟨ts, us, j, o5, o6, o7, rfl, hL, hD, lenT, hj, s3, hP, hp⟩ ⟨rfl, hx⟩
                  obtain ⟨sg, hsg, rfl⟩ : ∃ sg, codes[n]? = some sg ∧ x = .str (tx [sg]) := by
                    have hn' : n < 4 := hn
                    have : n = 0 ∨ n = 1 ∨ n = 2 ∨ n = 3 := by omega
                    rcases this with rfl | rfl | rfl | rfl <;> cases hx
                    · exact ⟨61, rfl, by decide +kernel⟩
                    · exact ⟨63, rfl, by decide +kernel⟩
                    · exact ⟨58, rfl, by decide +kernel⟩
                    · exact ⟨41, rfl, by decide +kernel⟩
                  have dn : codes.drop n = sg :: codes.drop (n + 1) := take_next hsg
                  rw [dn] at hp
                  refine ⟨_, rfl, _, rfl, addI ?_⟩
                  refine ⟨_, rfl, _, _, rfl, rfl, ?_⟩
                  refine ⟨z, j + 1, by show [V.str z, V.int ((j : Int) + 1), V.int (((d + 1 : Nat) : Int) - 1)] = _; rw [show ((d + 1 : Nat) : Int) - 1 = (d : Int) by omega]; rfl, hj, hz, by omega, fun v H3 s4 got => ?_⟩
                  have s5 := s3.trans s4
                  have hL3 := s4 _ _ hL
                  have hP3 := s4 _ _ hP
                  have hD3 := dpAll_same s4 hD
                  refine ⟨_, rfl, ?_⟩
                  cases hf : pl d ((ls z).drop (j + 1)) with
                  | none =>
                    rw [hf] at got
                    obtain rfl : v = .non := got
                    refine ⟨_, rfl, ?_⟩
                    refine q _ _ s5 ?_
                    rw [hp]
                    unfold plp
                    rw [hf]
                    rfl
                  | some tr =>
                    obtain ⟨t, r⟩ := tr
                    rw [hf] at got
                    obtain ⟨pf, jj, u, rfl, hjj, hr', hpf, hdu⟩ := got
                    refine ⟨_, rfl, ?_⟩
                    refine ⟨_, rfl, ixT (i := 1) (.inl (.inl hpf)) rfl ?_⟩
                    refine ⟨_, rfl, lenS hz ?_⟩
                    refine ⟨_, _, rfl, rfl, _, rfl, ?_⟩
                    by_cases hjl : jj < z.length
                    · rw [decide_eq_false (show ¬ (z.length : Int) ≤ (jj : Int) by omega)]
                      obtain ⟨c2, hc2⟩ : ∃ c, (ls z)[jj]? = some c := ⟨_, List.getElem?_eq_getElem (by rw [ls_len]; exact hjl)⟩
                      have dj2 := take_next hc2
                      rw [dj2] at hr'
                      subst hr'
                      refine ⟨_, rfl, _, rfl, ixT (i := 1) (.inl (.inl hpf)) rfl ?_⟩
                      refine ixS hz hc2 ?_
                      refine ⟨_, rfl, neS ?_⟩
                      refine ⟨_, rfl, ?_⟩
                      by_cases hcs : c2 = sg
                      · subst hcs
                        rw [decide_eq_true rfl]
                        refine ⟨_, rfl, pf, _, rfl, .inl (.inl hpf), rfl, ?_⟩
                        have hlen : us.length < sizeLine := by
                          have h1 := DpAll.length hD
                          rw [List.length_map, lenT] at h1
                          rw [h1]
                          have hn' : n < 4 := hn
                          exact Nat.lt_trans hn' (by decide)
                        refine ⟨_, _, rfl, _, _, rfl, rfl, ?_⟩
                        refine ⟨_, rfl, .inl ⟨rfl, us, .inl (.inl hL3)⟩, _, rfl, l0, us, u, rfl, rfl, hL3, hlen, ?_⟩
                        have s6 : Same H (upd H3 l0 (.lst (us ++ [u]))) := fun b o e => by
                          rw [upd_ne (ne_of_none e (s1.free hl0))]
                          exact s5 b o e
                        have tkk : TK H3 (upd H3 l0 (.lst (us ++ [u]))) := TK.lst hL3
                        refine ⟨ts ++ [t], us ++ [u], jj, _, _, _, rfl, upd_same, ?_, by rw [List.length_append, lenT]; rfl, hjl, s6, by rw [upd_ne n0.symm]; exact hP3, ?_⟩
                        · exact dpAll_tk (ts := ts ++ [t]) tkk (by rw [List.map_append]; exact DpAll.app hD3 (.cons hdu .nil))
                        · rw [hp]
                          conv => lhs; unfold plp
                          rw [hf]
                          simp only [if_true]
                          cases plp (pl d) (codes.drop (n + 1)) ((ls z).drop (jj + 1)) with
                          | none => rfl
                          | some y =>
                            obtain ⟨ts2, q2⟩ := y
                            show some (ts ++ t :: ts2, q2) = some ((ts ++ [t]) ++ ts2, q2)
                            rw [List.append_assoc]
                            rfl
                      · rw [decide_eq_false (fun e => hcs (tx1.mp e))]
                        refine q _ _ s5 ?_
                        rw [hp]
                        unfold plp
                        rw [hf]
                        simp only [if_neg hcs]
                        rfl
                    · rw [decide_eq_true (show (z.length : Int) ≤ (jj : Int) by omega)]
                      refine q _ _ s5 ?_
                      have : r = [] := by rw [← hr']; exact List.drop_eq_nil_of_le (by rw [ls_len]; omega)
                      subst this
                      rw [hp]
                      unfold plp
                      rw [hf]
                      rfl
                · rintro σ H2 ⟨ts, us, j, o5, o6, o7, rfl, hL, hD, lenT, hj, s3, hP, hp⟩
                  refine ⟨_, rfl, tupL (.inl (.inl hL)) fun p1 H3 n1 s4 h1 => ?_⟩
                  refine ⟨_, rfl, addI ?_⟩
                  refine ⟨by show 2 ≤ sizeLine; decide, fun p hpn => ?_⟩
                  refine q _ _ ((s3.trans s4).trans (sNew hpn)) ?_
                  rw [hp]
                  match ts, lenT with
                  | [t1, t2, t3, t4], _ =>
                    refine ⟨p, j + 1, _, rfl, hj, rfl, upd_same, ?_⟩
                    have hD' := dpAll_same (s4.trans (sNew hpn (o := .tup [V.ref p1, V.int ((j : Int) + 1)]))) hD
                    exact .tup (.inl (.inl (sNew hpn _ _ h1))) hD'
            · rw [decide_eq_false (fun e => h40 (tx1.mp (e.trans (show ("(" : Str) = tx [40] by decide +kernel))))]
              refine q _ _ s1 ?_
              rw [plk, if_pos (.inl h40)]
              rfl
      · rw [decide_eq_false (fun h => hl (Int.ofNat_lt.mp h))]
        have e0 : (ls z).drop i = [] := List.drop_eq_nil_of_le (by rw [ls_len]; omega)
        rw [e0] at q
        refine ⟨_, rfl, _, rfl, z, i, rfl, hi, hz, ?_⟩
        rw [e0]
        refine ⟨_, rfl, _, rfl, (by decide), fun H1 s1 => ?_⟩
        refine ⟨_, rfl, ?_⟩
        refine ⟨_, rfl, _, rfl, lenS hz ?_⟩
        refine ⟨_, _, rfl, rfl, _, rfl, ?_⟩
        rw [decide_eq_true (show (z.length : Int) ≤ (i : Int) by omega)]
        exact q _ _ s1 rfl
end
end Z
set_option maxRecDepth 100000
set_option maxHeartbeats 4000000
namespace Z
open PySem PySem.Spec PyProof.Rows L2
section
variable {P : Program} {w : World} {K : PySem.W.Frag} {mg : Str → Option Value} {base : Heap} {a : Ad}
theorem sUpd {H H' : Hp} {D : Addr} {o : HO} (hD : H D = none) (s : Same H H') : Same H (upd H' D o) := fun b u e => by
  rw [upd_ne (ne_of_none e hD)]
  exact s b u e
theorem tr_same {H H' : Hp} (e : Same H H') {t : Tr} {v : V} (h : Dp K H v t.d) : Dp K H' v t.d := dp_same e h
def Tr.kids : Tr → List Tr
  | .cho a b c e => [a, b, c, e]
  | _ => []
theorem get4 {v1 v2 v3 v4 x : V} {a b c e : Tr} {i : Nat} {H : Hp} (h : [v1, v2, v3, v4][i]? = some x) (h1 : Dp K H v1 a.d) (h2 : Dp K H v2 b.d) (h3 : Dp K H v3 c.d) (h4 : Dp K H v4 e.d) : ∃ t, [a, b, c, e][i]? = some t ∧ Dp K H x t.d := by
  match i, h with
  | 0, h => exact ⟨a, rfl, by cases h; exact h1⟩
  | 1, h => exact ⟨b, rfl, by cases h; exact h2⟩
  | 2, h => exact ⟨c, rfl, by cases h; exact h3⟩
  | 3, h => exact ⟨e, rfl, by cases h; exact h4⟩
theorem mem4 {a b c e t : Tr} {i : Nat} (h : [a, b, c, e][i]? = some t) : t = a ∨ t = b ∨ t = c ∨ t = e := by
  match i, h with
  | 0, h => cases h; exact .inl rfl
  | 1, h => cases h; exact .inr (.inl rfl)
  | 2, h => cases h; exact .inr (.inr (.inl rfl))
  | 3, h => cases h; exact .inr (.inr (.inr rfl))
theorem kid_deep {a b c e t : Tr} {i : Nat} (h : [a, b, c, e][i]? = some t) : t.deep + 1 ≤ (Tr.cho a b c e).deep := by
  have : (Tr.cho a b c e).deep = 1 + max (max a.deep b.deep) (max c.deep e.deep) := rfl
  rcases mem4 h with rfl | rfl | rfl | rfl <;> omega
theorem kid_ok {a b c e t : Tr} {i : Nat} (h : [a, b, c, e][i]? = some t) (ok : (Tr.cho a b c e).Ok) : t.Ok := by
  obtain ⟨oa, ob, oc, oe⟩ : a.Ok ∧ b.Ok ∧ c.Ok ∧ e.Ok := ok
  rcases mem4 h with rfl | rfl | rfl | rfl <;> assumption
theorem int_small {n : Int} (h : 0 ≤ n ∧ n ≤ 9) : n.natAbs.log2 < 1920 := Nat.lt_of_le_of_lt (Nat.log2_le_self _) (by omega)
def spText (K : PySem.W.Frag) (n : Nat) : Sp := fun vs H Q _ => ∃ (v : V) (t : Tr), vs = [v] ∧ Dp K H v t.d ∧ t.Ok ∧ t.deep ≤ n ∧ n ≤ 4 ∧ ∀ H', Same H H' → Q (.str t.text) H'
theorem join_text (a b c e : Tr) : Str.empty ++ "(" ++ a.text ++ "=" ++ b.text ++ "?" ++ c.text ++ ":" ++ e.text ++ ")" = (Tr.cho a b c e).text := by
  apply str_ext
  rw [cho_text]
  simp only [ls_app]
  have h0 : ls Str.empty = [] := rfl
  have h1 : ls ("(" : Str) = [40] := by decide +kernel
  have h2 : ls ("=" : Str) = [61] := by decide +kernel
  have h3 : ls ("?" : Str) = [63] := by decide +kernel
  have h4 : ls (":" : Str) = [58] := by decide +kernel
  have h5 : ls (")" : Str) = [41] := by decide +kernel
  rw [h0, h1, h2, h3, h4, h5]
  simp
theorem ok_text (T : Tx P K mg a) : ∀ n : Nat, FnOk P w K mg base CX0 (n + 1) a.f_text_of a.d_text_of ["plan"] (spText K n)
  | 0 => fnNo fun vs H Q E ⟨v, t, _, _, _, h, _⟩ => by
    have := deep_pos t
    omega
  | n + 1 => by
    have IH : FnOk P w K mg base CX0 (n + 1) a.f_text_of a.d_text_of ["plan"] (spText K n) := ok_text T n
    refine T.text_of.fn.ok sc_text_of (fun vs H Q E h => ?_) (fun cdv A outer s H vs Q E hr h => ?_)
    · obtain ⟨v, t, rfl, _⟩ := h
      rfl
    · obtain ⟨v, t, rfl, hv, ok, hd, hn, q⟩ := h
      have nd := sc_text_of.nd
      refine ⟨_, (pss_cons (ps_if (pt_not (pt_val (cb_isi T.bi (pa_cons (pv 0) (pa_cons (gl_ty rfl T.bi.tuple PyProof.Rows.boot_tuple) pa_nil)))))
        (pss_one (ps_ret (cb_str T.bi (pa_cons (pv 0) pa_nil)))) pss_nil)
        (pss_cons (ps_asg (pe_lc (own := [("part", 5)]) (by rfl) nd (pi_tup (pv 0)) (blkOk_by (own := [("part", 5)]) (N := ["plan", "one", "other", "same", "unlike", "part"]) (sc := defScope s_text_of) (by decide +kernel)) (fun _ _ _ _ _ => (pg_name (i := 5) nd rfl (Or.inl rfl))) (fun _ _ _ _ _ => pts_nil) (fun _ _ _ _ _ => (pe_cf T.text_of IH hr (pa_cons (pv 5) pa_nil)))) (pg_unl rfl (pgs_cons (pg_name (i := 1) nd rfl (Or.inl rfl)) (pgs_cons (pg_name (i := 2) nd rfl (Or.inl rfl)) (pgs_cons (pg_name (i := 3) nd rfl (Or.inl rfl)) (pgs_cons (pg_name (i := 4) nd rfl (Or.inl rfl)) pgs_nil))))))
        (pss_one (ps_ret (pe_joined (PJ.cons pe_str (PJ.cons (pe_fmt (pv 1)) (PJ.cons pe_str (PJ.cons (pe_fmt (pv 2)) (PJ.cons pe_str (PJ.cons (pe_fmt (pv 3)) (PJ.cons pe_str (PJ.cons (pe_fmt (pv 4)) (PJ.cons pe_str PJ.nil)))))))))))))), ?_⟩
      refine ⟨_, rfl, isiTr hv ?_⟩
      refine ⟨_, rfl, ?_⟩
      cases t with
      | con m =>
        obtain rfl := tr_con hv
        exact ⟨_, rfl, strI (int_small ok) (q _ fun _ _ e => e)⟩
      | var x =>
        obtain rfl := tr_var hv
        exact ⟨_, rfl, strS (q _ fun _ _ e => e)⟩
      | cho a1 b1 c1 e1 =>
        obtain ⟨p, v1, v2, v3, v4, rfl, sq, h1, h2, h3, h4⟩ := tr_cho hv
        refine ⟨_, rfl, p, rfl, ⟨_, sq⟩, fun D hD => ?_⟩
        refine lc_it (walk_tup (xs := [v1, v2, v3, v4])) (fun i H' => H' D = some (.lst (([a1, b1, c1, e1].take i).map fun t => V.str t.text)) ∧ Same H H') ⟨upd_same, sNew hD⟩ (fun _ _ _ ⟨_, sm⟩ => SqT.same sm sq) ?_ ?_
        · rintro i x H1 H1' hi ⟨hA, sm⟩ ⟨rfl, hx⟩
          obtain ⟨t, ht, hdt⟩ := get4 (K := K) (H := H) hx h1 h2 h3 h4
          refine ⟨rfl, _, rfl, x, t, rfl, tr_same sm hdt, kid_ok ht ok, by have := kid_deep ht; omega, by omega, fun H2 s2 => ?_⟩
          have hi' : i < 4 := hi
          refine ⟨_, s2 _ _ hA, ?_, ?_, sUpd hD (sm.trans s2)⟩
          · rw [List.length_map, List.length_take]
            exact Nat.lt_of_le_of_lt (Nat.min_le_left _ _) (Nat.lt_trans hi' (by decide))
          · rw [upd_same, List.take_succ, ht, List.map_append]
            rfl
        · rintro H1 ⟨hA, sm⟩
          refine ⟨D, _, rfl, .inl (.inl hA), rfl, _, _, rfl, _, _, rfl, _, _, rfl, _, _, rfl, rfl, ?_⟩
          obtain ⟨oa, ob, oc, oe⟩ : a1.Ok ∧ b1.Ok ∧ c1.Ok ∧ e1.Ok := ok
          have hdd : (Tr.cho a1 b1 c1 e1).deep = 1 + max (max a1.deep b1.deep) (max c1.deep e1.deep) := rfl
          have t1 := text_small oa (by omega)
          have t2 := text_small ob (by omega)
          have t3 := text_small oc (by omega)
          have t4 := text_small oe (by omega)
          have k0 : (Str.empty).length = 0 := rfl
          have k1 : ("(" : Str).length = 1 := by decide +kernel
          have k2 : ("=" : Str).length = 1 := by decide +kernel
          have k3 : ("?" : Str).length = 1 := by decide +kernel
          have k4 : (":" : Str).length = 1 := by decide +kernel
          have k5 : (")" : Str).length = 1 := by decide +kernel
          have sl := PySem.sizeLine_eq
          have L : ∀ z : Str, z.length ≤ 1000 → z.length ≤ sizeLine := fun z h => by omega
          refine ⟨_, rfl, L _ (by simp only [len_app]; omega), _, rfl, .inl ⟨_, rfl, L _ (by omega), _, rfl, L _ (by simp only [len_app]; omega), _, rfl, L _ (by simp only [len_app]; omega), ?_⟩⟩
          refine ⟨_, rfl, .inl ⟨_, rfl, L _ (by omega), _, rfl, L _ (by simp only [len_app]; omega), _, rfl, L _ (by simp only [len_app]; omega), ?_⟩⟩
          refine ⟨_, rfl, .inl ⟨_, rfl, L _ (by omega), _, rfl, L _ (by simp only [len_app]; omega), _, rfl, L _ (by simp only [len_app]; omega), ?_⟩⟩
          refine ⟨_, rfl, .inl ⟨_, rfl, L _ (by omega), _, rfl, L _ (by simp only [len_app]; omega), _, rfl, L _ (by simp only [len_app]; omega), ?_⟩⟩
          rw [join_text]
          exact q _ sm
end
end Z
set_option maxRecDepth 100000
set_option maxHeartbeats 4000000
namespace Z
open PySem PySem.Spec PyProof.Rows L2
theorem has_kids {p a b c e : Tr} : p.has (.cho a b c e) = (decide (p = .cho a b c e) || [a, b, c, e].any p.has) := by
  simp [Tr.has, List.any_cons]
theorem any_take {α : Type} {l : List α} {f : α → Bool} {i : Nat} {x : α} (h : l[i]? = some x) : (l.take (i + 1)).any f = ((l.take i).any f || f x) := by
  rw [List.take_succ, h, List.any_append]
  simp
section
variable {P : Program} {w : World} {K : PySem.W.Frag} {mg : Str → Option Value} {base : Heap} {a : Ad}
def spHas (K : PySem.W.Frag) (n : Nat) : Sp := fun vs H Q _ => ∃ (v x : V) (p t : Tr), vs = [v, x] ∧ Dp K H v p.d ∧ Dp K H x t.d ∧ p.Fine ∧ t.Fine ∧ t.deep ≤ n ∧ ∀ H', Same H H' → Q (.bl (p.has t)) H'
theorem ok_stands (T : Tx P K mg a) : ∀ n : Nat, FnOk P w K mg base CX0 (n + 1) a.f_stands_in a.d_stands_in ["plan", "whole"] (spHas K n)
  | 0 => fnNo fun vs H Q E ⟨v, x, p, t, _, _, _, _, _, h, _⟩ => by
    have := deep_pos t
    omega
  | n + 1 => by
    have IH : FnOk P w K mg base CX0 (n + 1) a.f_stands_in a.d_stands_in ["plan", "whole"] (spHas K n) := ok_stands T n
    refine T.stands_in.fn.ok sc_stands_in (fun vs H Q E h => ?_) (fun cdv A outer s H vs Q E hr h => ?_)
    · obtain ⟨v, x, p, t, rfl, _⟩ := h
      rfl
    · obtain ⟨v, x, p, t, rfl, hv, hx, fp, ft, hd, q⟩ := h
      have nd := sc_stands_in.nd
      refine ⟨_, (pss_cons (ps_if (pt_cmpR (op_eqX hr) (pv 0) (pv 1) (nomark _)) (pss_one (ps_ret pe_bl)) pss_nil)
        (pss_one (ps_ret (pe_and (cb_isi T.bi (pa_cons (pv 1) (pa_cons (gl_ty rfl T.bi.tuple PyProof.Rows.boot_tuple) pa_nil))) (pe_one (pe_cmpR (op_neX hr) (pe_lc (own := [("part", 2)]) (by rfl) nd (pi_tup (pv 1)) (blkOk_by (own := [("part", 2)]) (N := ["plan", "whole", "part"]) (sc := defScope s_stands_in) (by decide +kernel)) (fun _ _ _ _ _ => (pg_name (i := 2) nd rfl (Or.inl rfl))) (fun _ _ _ _ _ => pts_one (pt_val (pe_cf T.stands_in IH hr (pa_cons (pv 0) (pa_cons (pv 2) pa_nil))))) (fun _ _ _ _ _ => (pv 2))) (pe_lst pa_nil) (nomark _))))))), ?_⟩
      refine ⟨_, rfl, _, rfl, eqT hv hx fp ft ?_⟩
      refine ⟨_, rfl, ?_⟩
      by_cases e : p = t
      · rw [decide_eq_true e]
        have : p.has t = true := by
          subst e
          cases p <;> simp [Tr.has]
        rw [this] at q
        exact q _ fun _ _ e => e
      · rw [decide_eq_false e]
        refine ⟨_, rfl, isiTr hx ?_⟩
        cases t with
        | con m =>
          have : p.has (.con m) = false := by simp [Tr.has, e]
          rw [this] at q
          exact ⟨_, rfl, q _ fun _ _ e => e⟩
        | var x =>
          have : p.has (.var x) = false := by simp [Tr.has, e]
          rw [this] at q
          exact ⟨_, rfl, q _ fun _ _ e => e⟩
        | cho a1 b1 c1 e1 =>
          refine ⟨_, rfl, ?_⟩
          obtain ⟨y, v1, v2, v3, v4, rfl, sq, h1, h2, h3, h4⟩ := tr_cho hx
          rw [has_kids, decide_eq_false e, Bool.false_or] at q
          refine ⟨_, rfl, y, rfl, ⟨_, sq⟩, fun D hD => ?_⟩
          refine lc_it (walk_tup (xs := [v1, v2, v3, v4])) (fun i H' => ∃ acc : List V, H' D = some (.lst acc) ∧ Same H H' ∧ acc.length ≤ i ∧ (!acc.isEmpty) = ([a1, b1, c1, e1].take i).any p.has) ⟨[], upd_same, sNew hD, Nat.le_refl _, rfl⟩ (fun _ _ _ ⟨_, _, sm, _⟩ => SqT.same sm sq) ?_ ?_
          · rintro i x H1 H1' hi ⟨acc, hA, sm, ln, em⟩ ⟨rfl, hx⟩
            obtain ⟨t, ht, hdt⟩ := get4 (K := K) (H := H) hx h1 h2 h3 h4
            have hi' : i < 4 := hi
            have hk := kid_deep ht
            refine ⟨rfl, _, rfl, _, rfl, v, x, p, t, rfl, tr_same sm hv, tr_same sm hdt, fp, ⟨kid_ok ht ft.1, by have := ft.2; omega⟩, by omega, fun H2 s2 => ?_⟩
            refine ⟨_, rfl, ?_⟩
            cases hb : p.has t with
            | true =>
              refine ⟨_, rfl, acc, s2 _ _ hA, Nat.lt_of_le_of_lt ln (Nat.lt_trans hi' (by decide)), acc ++ [x], upd_same, sUpd hD (sm.trans s2), by rw [List.length_append]; exact Nat.succ_le_succ ln, ?_⟩
              rw [any_take ht, hb]
              simp
            | false =>
              refine ⟨acc, s2 _ _ hA, sm.trans s2, Nat.le_succ_of_le ln, ?_⟩
              rw [any_take ht, hb, em, Bool.or_false]
          · rintro H1 ⟨acc, hA, sm, ln, em⟩
            refine ⟨Nat.zero_le _, fun b hb => ?_⟩
            refine neL0 (.inl (.inl (by rw [upd_ne (ne_of_none hA hb)]; exact hA))) upd_same ?_
            rw [em]
            exact q _ (sm.trans (sNew hb))
def TermAt (K : PySem.W.Frag) (C : Addr) (H : Hp) (p : Addr) (t : Tr) : Prop := ∃ (dx : Addr) (u : V), H p = some (.ins C dx [("tree", u)]) ∧ Dp K H u t.d ∧ t.Fine
theorem TermAt.same {C : Addr} {H H' : Hp} {p : Addr} {t : Tr} (e : Same H H') (h : TermAt K C H p t) : TermAt K C H' p t := by
  obtain ⟨dx, u, h1, h2, h3⟩ := h
  exact ⟨dx, u, e _ _ h1, tr_same e h2, h3⟩
inductive PO (K : PySem.W.Frag) (C : Addr) (H : Hp) : V → Option Tr → Prop
  | str (z : Str) (h : z.length ≤ sizeLine) : PO K C H (.str z) (planOf z)
  | own {p : Addr} {t : Tr} (h : TermAt K C H p t) : PO K C H (.ref p) (some t)
  | int (n : Int) : PO K C H (.int n) (if 0 ≤ n ∧ n ≤ 9 then some (.con n) else none)
  | oth {x : V} {ty : String} {r1 r2 : Bool} (h : TyX K H x (.type ty)) (k1 : kitB ty "int" = some r1) (k2 : kitB ty "bool" = some r2) (e : (r1 && !r2) = false) (k3 : kitB ty "str" = some false) (k4 : PySem.W.kitOne K (.type ty) (.ref C) = some false) : PO K C H x none
def GotT (K : PySem.W.Frag) (H : Hp) (v : V) : Option Tr → Prop
  | none => v = .non
  | some t => Dp K H v t.d
def spPlanOf (K : PySem.W.Frag) (C : Addr) : Sp := fun vs H Q _ => ∃ (x : V) (r : Option Tr), vs = [x] ∧ PO K C H x r ∧ ∀ v H', Same H H' → GotT K H' v r → Q v H'
theorem tyTerm (T : Tx P K mg a) {H : Hp} {p dx : Addr} {fs : List (Str × V)} (h : H p = some (.ins a.C_Term dx fs)) : TyX K H (.ref p) (.ref a.C_Term) := .base (.ins h T.c_Term T.ty_Term T.tn T.tt T.mo_Term)
theorem ok_plan_of (T : Tx P K mg a) : FnOk P w K mg base CX0 6 a.f_plan_of a.d_plan_of ["value"] (spPlanOf K a.C_Term) := by
  have F1 : FnOk P w K mg base CX0 2 a.f_is_number a.d_is_number ["value", "low", "high"] (spNumber K) := ok_number T
  have F2 : FnOk P w K mg base CX0 4 a.f_plan_at a.d_plan_at ["text", "at", "deep"] (spPlanAt K 3) := ok_plan_at T 3
  refine T.plan_of.fn.ok sc_plan_of (fun vs H Q E h => ?_) (fun cdv A outer s H vs Q E hr h => ?_)
  · obtain ⟨x, r, rfl, _⟩ := h
    rfl
  · obtain ⟨x, r, rfl, hp, q⟩ := h
    have nd := sc_plan_of.nd
    refine ⟨_, (pss_cons (ps_if (pt_val (cb_isi T.bi (pa_cons (pv 0) (pa_cons (pe_gr T.g_Term) pa_nil)))) (pss_one (ps_ret (pe_fld (pv 0) rfl))) pss_nil)
      (pss_cons (ps_if (pt_val (pe_cf T.is_number F1 (hr.mono (by decide)) (pa_cons (pv 0) (pa_cons pe_int (pa_cons (pe_gi T.v_MOST_CONSTANT) pa_nil))))) (pss_one (ps_ret (pv 0))) pss_nil)
      (pss_cons (ps_if (pt_not (pt_val (cb_isi T.bi (pa_cons (pv 0) (pa_cons (gl_ty rfl T.bi.str PyProof.Rows.boot_str) pa_nil))))) (pss_one (ps_ret pe_non)) pss_nil)
      (pss_cons (ps_set (i := 1) nd rfl (Or.inl rfl) (pe_cf T.plan_at F2 (hr.mono (by decide)) (pa_cons (pv 0) (pa_cons pe_int (pa_cons (pe_gi T.v_MOST_DEPTH) pa_nil)))))
      (pss_cons (ps_if (PW.pt (pw_or (pt_cmp (pc_isN (pv 1))) (pw_or1 (pt_cmpR (op_neX hr) (pe_ix ix_A (pv 1) pe_int (fun _ _ => rfl)) (cb_len T.bi (pa_cons (pv 0) pa_nil)) (nomark _))))) (pss_one (ps_ret pe_non)) pss_nil)
      (pss_one (ps_ret (pe_ix ix_A (pv 1) pe_int (fun _ _ => rfl))))))))), ?_⟩
    have rf : Same H H := fun _ _ e => e
    cases hp with
    | own h =>
      rename_i p t
      obtain ⟨dx, u, h1, h2, h3⟩ := h
      refine ⟨_, rfl, isiOwn (tyTerm T h1) T.kit_Term ?_⟩
      refine ⟨_, rfl, ?_⟩
      exact ⟨_, rfl, p, a.C_Term, dx, _, u, rfl, h1, T.c_Term, T.no_Term_tree, rfl, q _ _ rf h2⟩
    | int n =>
      refine ⟨_, rfl, isiOwn (.base (.int n)) T.kit_Term_int ?_⟩
      refine ⟨_, rfl, ?_⟩
      refine ⟨_, rfl, _, 0, 9, rfl, .inl ⟨n, rfl, ?_⟩⟩
      refine ⟨_, rfl, ?_⟩
      by_cases h : 0 ≤ n ∧ n ≤ 9
      · rw [decide_eq_true h.1, decide_eq_true h.2]
        rw [if_pos h] at q
        exact ⟨_, rfl, q _ _ rf (.int n)⟩
      · rw [if_neg h] at q
        have : (decide (0 ≤ n) && decide (n ≤ 9)) = false := by
          rw [← Bool.decide_and]
          exact decide_eq_false h
        rw [this]
        refine ⟨_, rfl, isiTy (.base (.int n)) (by decide +kernel : kitB "int" "str" = some false) ?_⟩
        exact ⟨_, rfl, q _ _ rf rfl⟩
    | oth h k1 k2 e k3 k4 =>
      refine ⟨_, rfl, isiOwn h k4 ?_⟩
      refine ⟨_, rfl, ?_⟩
      refine ⟨_, rfl, _, 0, 9, rfl, .inr ⟨_, _, _, h, k1, k2, e, ?_⟩⟩
      refine ⟨_, rfl, ?_⟩
      refine ⟨_, rfl, isiTy h k3 ?_⟩
      exact ⟨_, rfl, q _ _ rf rfl⟩
    | str z hz =>
      refine ⟨_, rfl, isiOwn (.base (.str z)) T.kit_Term_str ?_⟩
      refine ⟨_, rfl, ?_⟩
      refine ⟨_, rfl, _, 0, 9, rfl, .inr ⟨"str", false, false, .base (.str z), k_si, by decide +kernel, rfl, ?_⟩⟩
      refine ⟨_, rfl, ?_⟩
      refine ⟨_, rfl, isiTy (.base (.str z)) k_ss ?_⟩
      refine ⟨_, rfl, ?_⟩
      refine ⟨_, rfl, z, 0, rfl, Nat.zero_le _, hz, by decide, fun v H1 s1 got => ?_⟩
      rw [List.drop_zero] at got
      unfold planOf at q
      refine ⟨_, rfl, ?_⟩
      cases hf : pl 3 (ls z) with
      | none =>
        rw [hf] at got q
        obtain rfl : v = .non := got
        refine ⟨_, rfl, ?_⟩
        exact q _ _ s1 rfl
      | some tr =>
        obtain ⟨t, r⟩ := tr
        rw [hf] at got q
        obtain ⟨pf, j, u, rfl, hj, hr', hpf, hu⟩ := got
        refine ⟨_, rfl, ?_⟩
        refine ⟨_, rfl, ixT (i := 1) (.inl (.inl hpf)) rfl ?_⟩
        refine ⟨_, rfl, lenS hz ?_⟩
        refine neI ?_
        refine ⟨_, rfl, ?_⟩
        by_cases hl : j = z.length
        · rw [decide_eq_true (show (j : Int) = (z.length : Int) by omega)]
          have : r = [] := by rw [← hr']; exact List.drop_eq_nil_of_le (by rw [ls_len]; omega)
          subst this
          exact ⟨_, rfl, ixT (i := 0) (.inl (.inl hpf)) rfl (q _ _ s1 hu)⟩
        · rw [decide_eq_false (show ¬ (j : Int) = (z.length : Int) by omega)]
          cases r with
          | nil =>
            have := congrArg List.length hr'
            rw [List.length_drop, ls_len] at this
            simp at this
            omega
          | cons c r => exact q _ _ s1 rfl
end
end Z
set_option maxRecDepth 100000
set_option maxHeartbeats 4000000
namespace Z
open PySem PySem.Spec PyProof.Rows L2
section
variable {P : Program} {w : World} {K : PySem.W.Frag} {mg : Str → Option Value} {base : Heap} {a : Ad}
theorem plp_fine {d : Nat} {f : List Nat → Option (Tr × List Nat)} (hf : ∀ l t r, f l = some (t, r) → t.Ok ∧ t.deep ≤ d) : ∀ {ss l ts z}, plp f ss l = some (ts, z) → ∀ t ∈ ts, t.Ok ∧ t.deep ≤ d
  | [], l, ts, z, h => by
    simp [plp] at h
    obtain ⟨rfl, _⟩ := h
    intro t ht
    cases ht
  | s :: ss, l, ts, z, h => by
    unfold plp at h
    split at h
    · rename_i t c q e
      split at h
      · split at h
        · rename_i us y e2
          cases h
          intro t' ht
          rcases List.mem_cons.mp ht with rfl | ht
          · exact hf _ _ _ e
          · exact plp_fine hf e2 t' ht
        · cases h
      · cases h
    · cases h
theorem pl_fine : ∀ (d : Nat) (l : List Nat) (t : Tr) (r : List Nat), pl d l = some (t, r) → t.Ok ∧ t.deep ≤ d
  | 0, l, t, r, h => by cases h
  | d + 1, [], t, r, h => by cases h
  | d + 1, c :: q, t, r, h => by
    unfold pl at h
    split at h
    · rename_i hc
      cases h
      unfold isDB at hc
      simp at hc
      exact ⟨⟨by omega, by omega⟩, Nat.le_add_left 1 d⟩
    · split at h
      · rename_i hw
        cases h
        have := wordB_iff (w := tx ((c :: q).takeWhile isLB))
        rw [ls_tx] at this
        exact ⟨this.mp hw, Nat.le_add_left 1 d⟩
      · split at h
        · cases h
        · unfold plx at h
          split at h
          · rename_i a b c e z e2
            cases h
            have hh := plp_fine (fun l t r => pl_fine d l t r) e2
            have ha := hh a (by simp)
            have hb := hh b (by simp)
            have hc := hh c (by simp)
            have he := hh e (by simp)
            refine ⟨⟨ha.1, hb.1, hc.1, he.1⟩, ?_⟩
            show 1 + max (max a.deep b.deep) (max c.deep e.deep) ≤ d + 1
            omega
          · cases h
theorem planOf_fine {z : Str} {t : Tr} (h : planOf z = some t) : t.Ok ∧ t.deep ≤ 3 := by
  unfold planOf at h
  split at h
  · rename_i u e
    cases h
    exact pl_fine 3 _ _ _ e
  · cases h
theorem po_fine {K : PySem.W.Frag} {C : Addr} {H : Hp} {x : V} {t : Tr} (h : PO K C H x (some t)) : t.Fine := by
  generalize hr : some t = r at h
  cases h with
  | str z hz =>
    have := planOf_fine hr.symm
    exact ⟨this.1, by omega⟩
  | own h =>
    cases hr
    obtain ⟨_, _, _, _, f⟩ := h
    exact f
  | int n =>
    split at hr
    · rename_i hn
      cases hr
      exact ⟨hn, show 1 ≤ 60 by decide⟩
    · cases hr
  | oth => cases hr
theorem TK.ins {H : Hp} {p C dx : Addr} {fs : List (Str × V)} {o : HO} (h : H p = some (.ins C dx fs)) : TK H (upd H p o) :=
  ⟨fun b ys e => by rw [upd_ne (ne_of e h (by intro z; cases z))]; exact e, fun b o u e => by rw [upd_ne (ne_of e h (by intro z; cases z))]; exact e⟩
def spInit (K : PySem.W.Frag) (C X : Addr) : Sp := fun vs H Q E => ∃ (p dx : Addr) (x : V) (r : Option Tr), vs = [.ref p, x] ∧ H p = some (.ins C dx []) ∧ PO K C H x r ∧
  (∀ t v H', r = some t → But p H H' → H' p = some (.ins C dx [("tree", v)]) → Dp K H' v t.d → Q .non H') ∧ (r = none → ∀ d H1, Same H H1 → H1 d = none → E (.ref X) (some d) (upd H1 d (.xd [("value", x)])))
theorem ok_init (T : Tx P K mg a) : FnOk P w K mg base (L2.CX P w) 7 a.f_Term___init__ a.d_Term___init__ ["self", "value"] (spInit K a.C_Term a.C_NoTerm) := by
  have F1 : FnOk P w K mg base CX0 6 a.f_plan_of a.d_plan_of ["value"] (spPlanOf K a.C_Term) := ok_plan_of T
  refine T.Term___init__.okX sc_Term___init__ (fun vs H Q E h => ?_) (fun cdv A outer s H vs Q E hr h => ?_)
  · obtain ⟨p, dx, x, r, rfl, _⟩ := h
    rfl
  · obtain ⟨p, dx, x, r, rfl, hp, po, q1, q2⟩ := h
    have nd := sc_Term___init__.nd
    refine ⟨_, (pss_cons (ps_set (i := 2) nd rfl (Or.inl rfl) (pe_cf T.plan_of F1 hr (pa_cons (pv 1) pa_nil)))
      (pss_cons (ps_if (pt_cmp (pc_isN (pv 2))) (pss_one (ps_raiseT (takes_of rfl rfl rfl rfl) T.e_NoTerm hr (pa_cons (pv 1) pa_nil))) pss_nil)
      (pss_one (ps_fld (pv 0) (pv 2) rfl)))), ?_⟩
    refine ⟨_, rfl, _, r, rfl, po, fun v H1 s1 got => ?_⟩
    refine ⟨_, rfl, ?_⟩
    cases r with
    | none =>
      obtain rfl : v = .non := got
      refine ⟨_, rfl, ?_⟩
      exact ⟨_, rfl, x, rfl, fun d hd => q2 rfl d H1 s1 hd⟩
    | some t =>
      have nv : decide (v = V.non) = false := by
        refine decide_eq_false ?_
        rintro rfl
        cases t <;> (unfold GotT Tr.d at got; cases got)
      refine ⟨_, rfl, ?_⟩
      rw [nv]
      have hp1 := s1 _ _ hp
      refine ⟨_, rfl, _, rfl, p, a.C_Term, dx, [], rfl, hp1, T.c_Term, T.no_Term_tree, (by decide), ?_⟩
      refine q1 t v _ rfl (fun b o hb e => by rw [upd_ne hb]; exact s1 b o e) upd_same ?_
      exact tr_tk (TK.ins hp1) t got
def spWithin (K : PySem.W.Frag) (C X : Addr) : Sp := fun vs H Q E => ∃ (p : Addr) (x : V) (s : Tr), vs = [.ref p, x] ∧ TermAt K C H p s ∧
  ((∃ q t, x = .ref q ∧ TermAt K C H q t ∧ t.deep ≤ 9 ∧ ∀ H', Same H H' → Q (.bl (s.has t)) H') ∨ (∃ ty, TyX K H x (.type ty) ∧ PySem.W.kitOne K (.type ty) (.ref C) = some false ∧ ∀ d, H d = none → E (.ref X) (some d) (upd H d (.xd [("value", x)]))))
theorem ok_within (T : Tx P K mg a) : FnOk P w K mg base (L2.CX P w) 11 a.f_Term_within a.d_Term_within ["self", "other"] (spWithin K a.C_Term a.C_NoTerm) := by
  have F1 : FnOk P w K mg base CX0 10 a.f_stands_in a.d_stands_in ["plan", "whole"] (spHas K 9) := ok_stands T 9
  refine T.Term_within.okX sc_Term_within (fun vs H Q E h => ?_) (fun cdv A outer s H vs Q E hr h => ?_)
  · obtain ⟨p, x, s, rfl, _⟩ := h
    rfl
  · obtain ⟨p, x, s, rfl, hp, h⟩ := h
    have nd := sc_Term_within.nd
    refine ⟨_, (pss_cons (ps_if (pt_not (pt_val (cb_isi T.bi (pa_cons (pv 1) (pa_cons (pe_gr T.g_Term) pa_nil))))) (pss_one (ps_raiseT (takes_of rfl rfl rfl rfl) T.e_NoTerm hr (pa_cons (pv 1) pa_nil))) pss_nil)
      (pss_one (ps_ret (pe_cf T.stands_in F1 hr (pa_cons (pe_fld (pv 0) rfl) (pa_cons (pe_fld (pv 1) rfl) pa_nil)))))), ?_⟩
    obtain ⟨dx, u, h1, h2, h3⟩ := hp
    rcases h with ⟨q, t, rfl, ⟨dy, v, g1, g2, g3⟩, hd, k⟩ | ⟨ty, ht, hk, k⟩
    · refine ⟨_, rfl, isiOwn (tyTerm T g1) T.kit_Term ?_⟩
      refine ⟨_, rfl, ?_⟩
      refine ⟨_, rfl, p, _, dx, _, u, rfl, h1, T.c_Term, T.no_Term_tree, rfl, ?_⟩
      refine ⟨_, rfl, q, _, dy, _, v, rfl, g1, T.c_Term, T.no_Term_tree, rfl, ?_⟩
      exact ⟨u, v, s, t, rfl, h2, g2, h3, g3, hd, k⟩
    · refine ⟨_, rfl, isiOwn ht hk ?_⟩
      refine ⟨_, rfl, ?_⟩
      exact ⟨_, rfl, x, rfl, fun d hd => k d hd⟩
def spEqT (K : PySem.W.Frag) (C : Addr) : Sp := fun vs H Q _ => ∃ (p q : Addr) (s t : Tr), vs = [.ref p, .ref q] ∧ TermAt K C H p s ∧ TermAt K C H q t ∧ Q (.bl (decide (s = t))) H
theorem ok_eq (T : Tx P K mg a) : FnOk P w K mg base CX0 1 a.f_Term___eq__ a.d_Term___eq__ ["self", "other"] (spEqT K a.C_Term) := by
  refine T.Term___eq__.ok sc_Term___eq__ (fun vs H Q E h => ?_) (fun cdv A outer s H vs Q E hr h => ?_)
  · obtain ⟨p, x, s, t, rfl, _⟩ := h
    rfl
  · obtain ⟨p, q, s, t, rfl, ⟨dx, u, h1, h2, h3⟩, ⟨dy, v, g1, g2, g3⟩, k⟩ := h
    refine ⟨_, (pss_one (ps_ret (pe_and (cb_isi T.bi (pa_cons (pv 1) (pa_cons (pe_gr T.g_Term) pa_nil))) (pe_one (pe_cmpR (op_eqX hr) (pe_fld (pv 0) rfl) (pe_fld (pv 1) rfl) (nomark _)))))), ?_⟩
    refine ⟨_, rfl, isiOwn (tyTerm T g1) T.kit_Term ?_⟩
    refine ⟨_, rfl, ?_⟩
    refine ⟨_, rfl, p, _, dx, _, u, rfl, h1, T.c_Term, T.no_Term_tree, rfl, ?_⟩
    refine ⟨_, rfl, q, _, dy, _, v, rfl, g1, T.c_Term, T.no_Term_tree, rfl, ?_⟩
    exact eqT h2 g2 h3 g3 k
theorem make_term {H : Hp} {t : Tr} {C X : Addr} {R : VK} {x dx : Addr} (ok : t.Ok) (hd : t.deep ≤ 3) (hx : H x = none) (hdx : H dx = none) (ne : dx ≠ x) (q : ∀ H', Same H H' → TermAt K C H' x t → R .non H') :
    spInit K C X [.ref x, .str t.text] (upd (upd H dx (.own x)) x (.ins C dx [])) R E0 := by
  have hz : t.text.length ≤ sizeLine := Nat.le_trans (text_small ok hd) (by decide)
  refine ⟨x, dx, _, _, rfl, upd_same, .str _ hz, fun t' v H' e b h1 h2 => ?_, fun e => ?_⟩
  · rw [plan_text ok hd] at e
    cases e
    refine q H' (fun c o hc => b c o (ne_of_none hc hx) ?_) ⟨dx, v, h1, h2, ok, by omega⟩
    rw [upd_ne (ne_of_none hc hx), upd_ne (ne_of_none hc hdx)]
    exact hc
  · rw [plan_text ok hd] at e
    cases e
def spParts (K : PySem.W.Frag) (C : Addr) : Sp := fun vs H Q _ => ∃ (p : Addr) (t : Tr), vs = [.ref p] ∧ TermAt K C H p t ∧ t.deep ≤ 3 ∧
  ∀ l (ps : List Addr) H', Same H H' → H' l = some (.lst (ps.map V.ref)) → ps.length = t.kids.length → (∀ (i : Nat) (q : Addr) (k : Tr), ps[i]? = some q → t.kids[i]? = some k → TermAt K C H' q k) → Q (.ref l) H'
theorem ok_parts (T : Tx P K mg a) : FnOk P w K mg base CX0 9 a.f_Term_parts a.d_Term_parts ["self"] (spParts K a.C_Term) := by
  have F1 : FnOk P w K mg base CX0 4 a.f_text_of a.d_text_of ["plan"] (spText K 3) := ok_text T 3
  have F2 : FnOk P w K mg base (L2.CX P w) 7 a.f_Term___init__ a.d_Term___init__ ["self", "value"] (spInit K a.C_Term a.C_NoTerm) := ok_init T
  refine T.Term_parts.ok sc_Term_parts (fun vs H Q E h => ?_) (fun cdv A outer s H vs Q E hr h => ?_)
  · obtain ⟨p, t, rfl, _⟩ := h
    rfl
  · obtain ⟨p, t, rfl, ⟨dx, u, h1, h2, h3⟩, hd, k⟩ := h
    have nd := sc_Term_parts.nd
    refine ⟨_, (pss_cons (ps_if (pt_not (pt_val (cb_isi T.bi (pa_cons (pe_fld (pv 0) rfl) (pa_cons (gl_ty rfl T.bi.tuple PyProof.Rows.boot_tuple) pa_nil))))) (pss_one (ps_ret (pe_lst pa_nil))) pss_nil)
      (pss_one (ps_ret (pe_lc (own := [("part", 1)]) (by rfl) nd (pi_tup (pe_fld (pv 0) rfl)) (blkOk_by (own := [("part", 1)]) (N := ["self", "part"]) (sc := defScope s_Term_parts) (by decide +kernel)) (fun _ _ _ _ _ => (pg_name (i := 1) nd rfl (Or.inl rfl))) (fun _ _ _ _ _ => pts_nil)
        (fun _ _ _ _ _ => (pe_make T.mk_Term F2 hr rfl T.g_Term T.b_Term___init__ .nil passL (pa_cons (pe_cf T.text_of F1 (hr.mono (by decide)) (pa_cons (pv 1) pa_nil)) pa_nil))))))), ?_⟩
    refine ⟨_, rfl, p, _, dx, _, u, rfl, h1, T.c_Term, T.no_Term_tree, rfl, isiTr h2 ?_⟩
    refine ⟨_, rfl, ?_⟩
    cases t with
    | con m => exact ⟨Nat.zero_le _, fun l hl => k l [] _ (sNew hl) upd_same rfl fun i q k h _ => by simp at h⟩
    | var m => exact ⟨Nat.zero_le _, fun l hl => k l [] _ (sNew hl) upd_same rfl fun i q k h _ => by simp at h⟩
    | cho a1 b1 c1 e1 =>
      obtain ⟨y, v1, v2, v3, v4, rfl, sq, g1, g2, g3, g4⟩ := tr_cho h2
      refine ⟨_, rfl, p, _, dx, _, _, rfl, h1, T.c_Term, T.no_Term_tree, rfl, y, rfl, ⟨_, sq⟩, fun D hD => ?_⟩
      refine lc_it (walk_tup (xs := [v1, v2, v3, v4])) (fun i H' => ∃ ps : List Addr, H' D = some (.lst (ps.map V.ref)) ∧ Same H H' ∧ ps.length = i ∧ (∀ (j : Nat) (q : Addr) (k : Tr), ps[j]? = some q → [a1, b1, c1, e1][j]? = some k → TermAt K a.C_Term H' q k))
        ⟨[], upd_same, sNew hD, rfl, fun j q k h _ => by simp at h⟩ (fun _ _ _ ⟨_, _, sm, _⟩ => SqT.same sm sq) ?_ ?_
      · rintro i x H1 H1' hi ⟨ps, hA, sm, ln, al⟩ ⟨rfl, hx⟩
        obtain ⟨t, ht, hdt⟩ := get4 (K := K) (H := H) hx g1 g2 g3 g4
        have hk := kid_deep ht
        have ok := kid_ok ht h3.1
        have hi' : i < 4 := hi
        refine ⟨rfl, _, rfl, x, t, rfl, tr_same sm hdt, ok, by omega, by decide, fun H2 s2 => ?_⟩
        intro x2 dx2 n1 n2 ne
        refine make_term ok (by omega) n1 n2 ne fun H3 s3 tq => ⟨rfl, ?_⟩
        have sA : Same H1' H3 := s2.trans s3
        refine ⟨_, sA _ _ hA, by rw [List.length_map, ln]; exact Nat.lt_trans hi' (by decide), ps ++ [x2], by rw [upd_same, List.map_append]; rfl, sUpd hD (sm.trans sA), by rw [List.length_append, ln]; rfl, ?_⟩
        have up : ∀ {q' : Addr} {t' : Tr}, TermAt K a.C_Term H3 q' t' → TermAt K a.C_Term (upd H3 D (.lst (ps.map V.ref ++ [V.ref x2]))) q' t' := fun {q' t'} h => by
          obtain ⟨dz, uz, z1, z2, z3⟩ := h
          have hDl := sA _ _ hA
          exact ⟨dz, uz, by rw [upd_ne (ne_of z1 hDl (by intro z; cases z))]; exact z1, tr_tk (TK.lst hDl) t' z2, z3⟩
        intro j q' k' hj hk'
        by_cases hjl : j < ps.length
        · rw [List.getElem?_append_left hjl] at hj
          exact up ((al j q' k' hj hk').same sA)
        · have : j = ps.length := by
            have := (List.getElem?_eq_some_iff.mp hj).1
            rw [List.length_append, List.length_singleton] at this
            omega
          subst this
          rw [List.getElem?_append_right (Nat.le_refl _), Nat.sub_self] at hj
          cases hj
          rw [ln, ht] at hk'
          cases hk'
          exact up tq
      · rintro H1 ⟨ps, hA, sm, ln, al⟩
        exact k D ps H1 sm hA ln al
end
end Z
set_option maxRecDepth 100000
set_option maxHeartbeats 4000000
namespace Z
open PySem PySem.Spec PyProof.Rows L2
section
variable {P : Program} {w : World} {K : PySem.W.Frag} {mg : Str → Option Value} {base : Heap} {a : Ad}
theorem get4T {p1 p2 p3 p4 : Addr} {x : V} {t1 t2 t3 t4 : Tr} {i : Nat} {C : Addr} {H : Hp} (h : [V.ref p1, V.ref p2, V.ref p3, V.ref p4][i]? = some x) (h1 : TermAt K C H p1 t1) (h2 : TermAt K C H p2 t2) (h3 : TermAt K C H p3 t3) (h4 : TermAt K C H p4 t4) : ∃ q t, x = .ref q ∧ [t1, t2, t3, t4][i]? = some t ∧ TermAt K C H q t := by
  match i, h with
  | 0, h => exact ⟨p1, t1, by cases h; rfl, rfl, h1⟩
  | 1, h => exact ⟨p2, t2, by cases h; rfl, rfl, h2⟩
  | 2, h => exact ⟨p3, t3, by cases h; rfl, rfl, h3⟩
  | 3, h => exact ⟨p4, t4, by cases h; rfl, rfl, h4⟩
theorem none_tr {H : Hp} {v : V} {t : Tr} (h : Dp K H v t.d) : decide (v = V.non) = false := by
  refine decide_eq_false ?_
  rintro rfl
  cases t <;> (unfold Tr.d at h; cases h)
def spChoice (K : PySem.W.Frag) (C : Addr) : Sp := fun vs H Q _ => ∃ (p1 p2 p3 p4 : Addr) (t1 t2 t3 t4 : Tr), vs = [.ref p1, .ref p2, .ref p3, .ref p4] ∧ TermAt K C H p1 t1 ∧ TermAt K C H p2 t2 ∧ TermAt K C H p3 t3 ∧ TermAt K C H p4 t4 ∧ (Tr.cho t1 t2 t3 t4).deep ≤ 3 ∧
  ∀ q H', Same H H' → TermAt K C H' q (.cho t1 t2 t3 t4) → Q (.ref q) H'
theorem ok_choice (T : Tx P K mg a) : FnOk P w K mg base (L2.CX P w) 9 a.f_Term_choice a.d_Term_choice ["one", "other", "same", "unlike"] (spChoice K a.C_Term) := by
  have F0 : FnOk P w K mg base CX0 6 a.f_plan_of a.d_plan_of ["value"] (spPlanOf K a.C_Term) := ok_plan_of T
  have F1 : FnOk P w K mg base CX0 4 a.f_text_of a.d_text_of ["plan"] (spText K 3) := ok_text T 3
  have F2 : FnOk P w K mg base (L2.CX P w) 7 a.f_Term___init__ a.d_Term___init__ ["self", "value"] (spInit K a.C_Term a.C_NoTerm) := ok_init T
  refine T.Term_choice.okX sc_Term_choice (fun vs H Q E h => ?_) (fun cdv A outer s H vs Q E hr h => ?_)
  · obtain ⟨p1, p2, p3, p4, t1, t2, t3, t4, rfl, _⟩ := h
    rfl
  · obtain ⟨p1, p2, p3, p4, t1, t2, t3, t4, rfl, h1, h2, h3, h4, hd, k⟩ := h
    have nd := sc_Term_choice.nd
    refine ⟨_, (pss_cons (ps_set (i := 4) nd rfl (Or.inl rfl) (pe_lst pa_nil))
      (pss_cons (ps_for (passes_of rfl) rfl (pi_tup (pe_tup (pa_cons (pv 0) (pa_cons (pv 1) (pa_cons (pv 2) (pa_cons (pv 3) pa_nil)))))) (pg_name (i := 5) nd rfl (Or.inl rfl))
        (pss_cons (ps_set (i := 6) nd rfl (Or.inl rfl) (pe_cf T.plan_of F0 (hr.mono (by decide)) (pa_cons (pv 5) pa_nil)))
        (pss_cons (ps_if (pt_cmp (pc_isN (pv 6))) (pss_one ps_no) pss_nil)
        (pss_one (ps_expr (pe_bm PySem.F.plainAttrs_list PySem.F.slot_list_append PySem.F.type_list_append mt_append (pv 4) (pa_cons (pv 6) pa_nil)))))))
      (pss_one (ps_ret (pe_make T.mk_Term F2 hr rfl T.g_Term T.b_Term___init__ .nil passL (pa_cons (pe_cf T.text_of F1 (hr.mono (by decide)) (pa_cons (cb_tuple T.bi (pa_cons (pv 4) pa_nil)) pa_nil)) pa_nil)))))), ?_⟩
    refine ⟨Nat.zero_le _, fun l hl => ?_⟩
    refine ⟨_, rfl, _, rfl, _, rfl, _, rfl, by show 4 ≤ sizeLine; decide, fun p0 hp0 => ?_⟩
    have s1 : Same H (upd (upd H l (.lst [])) p0 (.tup [V.ref p1, .ref p2, .ref p3, .ref p4])) := (sNew hl).trans (sNew hp0)
    have n0 : l ≠ p0 := ne_of_none (H := upd H l (.lst [])) upd_same hp0
    refine ⟨p0, rfl, ⟨_, .inl (.inl upd_same)⟩, ?_⟩
    refine for_it (walk_tup (xs := [V.ref p1, .ref p2, .ref p3, .ref p4])) (fun n σ H' => ∃ (us : List V) (o5 o6 : Option V), σ = [some (.ref p1), some (.ref p2), some (.ref p3), some (.ref p4), some (.ref l), o5, o6] ∧ H' l = some (.lst us) ∧
        DpAll K H' us (([t1, t2, t3, t4].take n).map Tr.d) ∧ us.length = n ∧ Same H H' ∧ H' p0 = some (.tup [V.ref p1, .ref p2, .ref p3, .ref p4]))
      ⟨[], none, none, rfl, by rw [upd_ne n0, upd_same], .nil, rfl, s1, upd_same⟩ (fun n σ H' _ ⟨_, _, _, _, _, _, _, _, hp⟩ => .inl (.inl hp)) ?_ ?_
    · rintro n x σ H2 H2' hn ⟨us, o5, o6, rfl, hL, hD, ln, sm, hP⟩ ⟨rfl, hx⟩
      obtain ⟨q, t, rfl, ht, tq⟩ := get4T (K := K) (C := a.C_Term) hx h1 h2 h3 h4
      refine ⟨_, rfl, _, _, rfl, .own (tq.same sm), fun v H3 s3 got => ?_⟩
      have got' : Dp K H3 v t.d := got
      refine ⟨_, rfl, ?_⟩
      refine ⟨_, rfl, ?_⟩
      rw [none_tr got']
      have hL3 := s3 _ _ hL
      have hn' : n < 4 := hn
      refine ⟨_, rfl, .inl ⟨rfl, us, .inl (.inl hL3)⟩, _, rfl, l, us, v, rfl, rfl, hL3, by rw [ln]; exact Nat.lt_trans hn' (by decide), ?_⟩
      have tkk : TK H3 (upd H3 l (.lst (us ++ [v]))) := TK.lst hL3
      refine ⟨us ++ [v], _, _, rfl, upd_same, ?_, by rw [List.length_append, ln]; rfl, sUpd hl (sm.trans s3), by rw [upd_ne n0.symm]; exact s3 _ _ hP⟩
      rw [List.take_succ, ht]
      exact dpAll_tk (ts := [t1, t2, t3, t4].take n ++ [t]) tkk (by rw [List.map_append]; exact DpAll.app (dpAll_same s3 hD) (.cons got' .nil))
    · rintro σ H2 ⟨us, o5, o6, rfl, hL, hD, ln, sm, hP⟩
      refine ⟨_, rfl, tupL (.inl (.inl hL)) fun p5 H3 n5 s3 hp5 => ?_⟩
      have f1 : t1.Fine := by obtain ⟨_, _, _, _, f⟩ := h1; exact f
      have f2 : t2.Fine := by obtain ⟨_, _, _, _, f⟩ := h2; exact f
      have f3 : t3.Fine := by obtain ⟨_, _, _, _, f⟩ := h3; exact f
      have f4 : t4.Fine := by obtain ⟨_, _, _, _, f⟩ := h4; exact f
      have ok : (Tr.cho t1 t2 t3 t4).Ok := ⟨f1.1, f2.1, f3.1, f4.1⟩
      have hD' : DpAll K H3 us [t1.d, t2.d, t3.d, t4.d] := dpAll_same s3 hD
      have dp : Dp K H3 (.ref p5) (Tr.cho t1 t2 t3 t4).d := .tup (.inl (.inl hp5)) hD'
      refine ⟨_, _, rfl, dp, ok, hd, by decide, fun H4 s4 => ?_⟩
      intro x dx n1 n2 ne
      refine make_term ok hd n1 n2 ne fun H5 s5 tq => ⟨rfl, ?_⟩
      exact k _ _ (((sm.trans s3).trans s4).trans s5) tq
end
end Z
set_option maxRecDepth 100000
set_option maxHeartbeats 4000000
namespace Z
open PySem PySem.Spec PyProof.Rows L2
theorem b01 (b : Bool) : (if b = true then (1 : Int) else 0).natAbs < 2 ^ 1 := by cases b <;> decide
theorem bits_lt {n : Int} {N : Nat} (h : Builtin.Int.intBits n ≤ N) : n.natAbs < 2 ^ N := by
  by_cases h0 : n = 0
  · subst h0
    exact Nat.two_pow_pos N
  · have e : Builtin.Int.intBits n = n.natAbs.log2 + 1 := by
      unfold Builtin.Int.intBits
      rw [if_neg (by simpa using h0)]
    rw [e] at h
    exact Nat.lt_of_lt_of_le Nat.lt_log2_self (Nat.pow_le_pow_right (by decide) h)
section
variable {P : Program} {w : World} {K : PySem.W.Frag} {mg : Str → Option Value} {base : Heap} {a : Ad}
def PoolAt (H : Hp) (l : Addr) : Prop := ∃ p q : Int, H l = some (.lst [.int p, .int q]) ∧ 0 ≤ q ∧ q < 2147483647
def spPool (K : PySem.W.Frag) : Sp := fun vs H Q _ => ∃ (s : Addr) (ns : List Int) (k : Nat), vs = [.ref s, .int (k : Nat)] ∧ SqL K H s (ns.map V.int) ∧ (∀ z ∈ ns, Builtin.Int.intBits z ≤ 1048576) ∧ k ≤ 1000 ∧
  ∀ l H', Same H H' → H l = none → PoolAt H' l → Q (.ref l) H'
theorem ok_pool (T : Tx P K mg a) : FnOk P w K mg base CX0 1 a.f__law_pool a.d__law_pool ["script", "k"] (spPool K) := by
  refine T._law_pool.fn.ok sc__law_pool (fun vs H Q E h => ?_) (fun cdv A outer s H vs Q E hr h => ?_)
  · obtain ⟨l, ns, k, rfl, _⟩ := h
    rfl
  · obtain ⟨l, ns, k, rfl, hs, hb, hk, q⟩ := h
    have nd := sc__law_pool.nd
    refine ⟨_, (pss_cons (ps_set (i := 2) nd rfl (Or.inl rfl) pe_int)
      (pss_cons (ps_if (pt_cmpR op_lt (pv 1) (cb_len T.bi (pa_cons (pv 0) pa_nil)) (nomark _))
        (pss_one (ps_set (i := 2) nd rfl (Or.inl rfl) (pe_ix ix_A (pv 0) (pv 1) (fun _ _ => rfl)))) pss_nil)
      (pss_cons (ps_set (i := 3) nd rfl (Or.inl rfl) (cb_max T.bi (pa_cons (cb_int T.bi (pa_cons (pv 2) pa_nil)) (pa_cons (cb_int T.bi (pa_cons (pe_op op_sub (pe_un un_neg pe_int) (pv 2)) pa_nil)) pa_nil))))
      (pss_cons (ps_set (i := 4) nd rfl (Or.inl rfl) (pe_op op_mod (cb_int T.bi (pa_cons (pe_op op_mulA (pe_op op_addA (pe_op op_addA (pe_op op_addA (pe_op op_mod (cb_int T.bi (pa_cons (pv 3) pa_nil)) pe_int) (pe_op op_mulA (pe_op op_mulA pe_int (pv 1)) (pv 1))) (pe_op op_mulA pe_int (pv 1))) pe_int) pe_int) pa_nil)) pe_int))
      (pss_one (ps_ret (pe_lst (pa_cons (pe_op op_mulA (pv 3) (cb_int T.bi (pa_cons (pe_cmpR op_ge (pv 3) (pe_op op_pow pe_int pe_int) (nomark _)) pa_nil))) (pa_cons (pv 4) pa_nil))))))))), ?_⟩
    have big : (2 : Nat) ^ 1048577 = 2 * 2 ^ 1048576 := Nat.pow_succ'
    have sz : ∀ c : Int, c.natAbs < 2 ^ 1048576 → (0 : Int) ≤ (if -1 - c > c then -1 - c else c) ∧ (if -1 - c > c then -1 - c else c).natAbs < 2 ^ 1048577 := fun c hc => by
      generalize (2 : Nat) ^ 1048576 = N at hc big
      rw [big]
      split <;> omega
    have kb : ((k : Nat) : Int).natAbs < 2 ^ 10 := by omega
    have m1 : (7919 * (k : Int)).natAbs < 2 ^ 23 := by omega
    refine ⟨_, rfl, _, rfl, lenL hs ?_⟩
    refine ⟨_, _, rfl, rfl, _, rfl, ?_⟩
    have kk : 0 ≤ 7919 * (k : Int) * k ∧ 7919 * (k : Int) * k ≤ 7919 * 1000 * 1000 := by
      have h0 : (0 : Int) ≤ k := Int.natCast_nonneg _
      have h1 : (k : Int) ≤ 1000 := Int.ofNat_le.mpr hk
      have h2 : (k : Int) * k ≤ 1000 * 1000 := Int.mul_le_mul h1 h1 h0 (by decide)
      have h3 : (0 : Int) ≤ (k : Int) * k := Int.mul_nonneg h0 h0
      rw [Int.mul_assoc]
      omega
    have sm : ∀ c : Int, (c % 2147483629 + 7919 * (k : Int) * k + 31 * (k : Int) + 17).natAbs < 2 ^ 60 := fun c => by
      have h1 := Int.emod_nonneg c (show (2147483629 : Int) ≠ 0 by decide)
      have h2 := Int.emod_lt_of_pos c (show (0 : Int) < 2147483629 by decide)
      generalize 7919 * (k : Int) * k = y at kk
      omega
    have km : ((k : Int) * 7919).natAbs < 2 ^ 23 := by omega
    have fin : ∀ (c : Int), c.natAbs < 2 ^ 1048576 → ∀ p H', H' p = some (HO.lst [.int ((if -1 - c > c then -1 - c else c) * (if (decide ((10 : Int) ^ (18 : Int).toNat ≤ (if -1 - c > c then -1 - c else c))) then 1 else 0)), .int (((if -1 - c > c then -1 - c else c) % 2147483629 + 7919 * (k : Int) * k + 31 * k + 17) * 48271 % 2147483647)]) → PoolAt H' p := fun c hc p H' h =>
      ⟨_, _, h, Int.emod_nonneg _ (by decide), Int.emod_lt_of_pos _ (by decide)⟩
    by_cases hl : k < ns.length
    · rw [decide_eq_true (by rw [List.length_map]; exact Int.ofNat_lt.mpr hl)]
      have hc := bits_lt (hb _ (List.getElem_mem hl))
      refine ⟨_, rfl, _, rfl, ixL (v := .int ns[k]) hs (by simp [hl]) ?_⟩
      have fin := fin _ hc
      have sz := sz _ hc
      refine ⟨_, rfl, intI ?_⟩
      refine ⟨1, rfl, _, rfl, _, _, rfl, rfl, intI (max2 ?_)⟩
      refine ⟨_, rfl, intI ?_⟩
      refine ⟨_, _, rfl, rfl, (show (0 : Int) < 2147483629 by decide), ?_⟩
      refine ⟨_, rfl, mulI (mulx_ok (a := 13) (b := 10) (by decide) kb (by decide)) ?_⟩
      refine ⟨_, rfl, mulI (mulx_ok (a := 23) (b := 10) m1 kb (by decide)) (addI ?_)⟩
      refine ⟨_, rfl, mulI (mulx_ok (a := 5) (b := 10) (by decide) kb (by decide)) (addI ?_)⟩
      refine addI (mulI (mulx_ok (a := 60) (b := 16) (sm _) (by decide) (by decide)) (intI ?_))
      refine ⟨_, _, rfl, rfl, (show (0 : Int) < 2147483647 by decide), ?_⟩
      refine ⟨_, rfl, _, rfl, 10, 18, rfl, rfl, ⟨by decide, by decide, by decide⟩, _, _, rfl, rfl, intB ?_⟩
      refine mulI (mulx_ok (a := 1048577) (b := 1) sz.2 (b01 _) (by decide)) ?_
      refine ⟨_, rfl, by show 2 ≤ sizeLine; decide, fun p hp => ?_⟩
      exact q p _ (sNew hp) hp (fin p _ upd_same)
    · rw [decide_eq_false (by rw [List.length_map]; exact fun h => hl (Int.ofNat_lt.mp h))]
      have hc : (0 : Int).natAbs < 2 ^ 1048576 := Nat.two_pow_pos _
      have fin := fin _ hc
      have sz := sz _ hc
      refine ⟨_, rfl, intI ?_⟩
      refine ⟨1, rfl, _, rfl, _, _, rfl, rfl, intI (max2 ?_)⟩
      refine ⟨_, rfl, intI ?_⟩
      refine ⟨_, _, rfl, rfl, (show (0 : Int) < 2147483629 by decide), ?_⟩
      refine ⟨_, rfl, mulI (mulx_ok (a := 13) (b := 10) (by decide) kb (by decide)) ?_⟩
      refine ⟨_, rfl, mulI (mulx_ok (a := 23) (b := 10) m1 kb (by decide)) (addI ?_)⟩
      refine ⟨_, rfl, mulI (mulx_ok (a := 5) (b := 10) (by decide) kb (by decide)) (addI ?_)⟩
      refine addI (mulI (mulx_ok (a := 60) (b := 16) (sm _) (by decide) (by decide)) (intI ?_))
      refine ⟨_, _, rfl, rfl, (show (0 : Int) < 2147483647 by decide), ?_⟩
      refine ⟨_, rfl, _, rfl, 10, 18, rfl, rfl, ⟨by decide, by decide, by decide⟩, _, _, rfl, rfl, intB ?_⟩
      refine mulI (mulx_ok (a := 1048577) (b := 1) sz.2 (b01 _) (by decide)) ?_
      refine ⟨_, rfl, by show 2 ≤ sizeLine; decide, fun p hp => ?_⟩
      exact q p _ (sNew hp) hp (fin p _ upd_same)
theorem ixP0 {H : Hp} {Q : VK} {l : Addr} {p q : Int} (h : H l = some (.lst [.int p, .int q])) (k : Q (.int p) H) : rIxA K (.ref l) (.int 0) H Q := ixL (i := 0) (.inl (.inl h)) rfl k
theorem ixP1 {H : Hp} {Q : VK} {l : Addr} {p q : Int} (h : H l = some (.lst [.int p, .int q])) (k : Q (.int q) H) : rIxA K (.ref l) (.int 1) H Q := ixL (i := 1) (.inl (.inl h)) rfl k
def spTake : Sp := fun vs H Q _ => ∃ (l : Addr) (b : Int), vs = [.ref l, .int b] ∧ PoolAt H l ∧ 0 < b ∧ b < 1000000 ∧ ∀ r H', But l H H' → PoolAt H' l → 0 ≤ r → r < b → Q (.int r) H'
theorem ok_take (T : Tx P K mg a) : FnOk P w K mg base CX0 1 a.f__law_take a.d__law_take ["pool", "bound"] spTake := by
  refine T._law_take.fn.ok sc__law_take (fun vs H Q E h => ?_) (fun cdv A outer s H vs Q E hr h => ?_)
  · obtain ⟨l, b, rfl, _⟩ := h
    rfl
  · obtain ⟨l, b, rfl, ⟨p, q, hl, q0, q1⟩, hb, hb2, k⟩ := h
    have nd := sc__law_take.nd
    refine ⟨_, (pss_cons (ps_if (pt_cmpR op_gt (pe_ix ix_A (pv 0) pe_int (fun _ _ => rfl)) pe_int (nomark _))
        (pss_cons (ps_set (i := 2) nd rfl (Or.inl rfl) (pe_op op_mod (cb_int T.bi (pa_cons (pe_ix ix_A (pv 0) pe_int (fun _ _ => rfl)) pa_nil)) (pv 1)))
        (pss_cons (ps_asg (pe_op op_fdivW (pe_ix ix_A (pv 0) pe_int (fun _ _ => rfl)) (pv 1)) (pg_sub (pv 0) pe_int set_list))
        (pss_one (ps_ret (pv 2))))) pss_nil)
      (pss_cons (ps_asg (pe_op op_mod (cb_int T.bi (pa_cons (pe_op op_addA (pe_op op_mulA (pe_ix ix_A (pv 0) pe_int (fun _ _ => rfl)) pe_int) pe_int) pa_nil)) pe_int) (pg_sub (pv 0) pe_int set_list))
      (pss_one (ps_ret (pe_op op_mod (cb_int T.bi (pa_cons (pe_op op_fdivW (pe_op op_mod (cb_int T.bi (pa_cons (pe_op op_mulA (pe_ix ix_A (pv 0) pe_int (fun _ _ => rfl)) (pe_ix ix_A (pv 0) pe_int (fun _ _ => rfl))) pa_nil)) pe_int) pe_int) pa_nil)) (pv 1)))))), ?_⟩
    refine ⟨_, rfl, ixP0 hl ?_⟩
    refine ⟨p, 0, rfl, rfl, _, rfl, ?_⟩
    by_cases hp : 0 < p
    · rw [decide_eq_true hp]
      refine ⟨_, rfl, ixP0 hl (intI ?_)⟩
      refine ⟨_, rfl, _, _, rfl, rfl, hb, ?_⟩
      refine ⟨_, rfl, ixP0 hl ?_⟩
      refine ⟨_, rfl, _, _, rfl, rfl, wide_div (b := 20) hb (by omega) (by decide) (by decide), ?_⟩
      refine ⟨_, rfl, l, _, 0, 0, rfl, rfl, hl, rfl, ?_⟩
      exact ⟨_, rfl, k _ _ (But.upd) ⟨_, _, upd_same, q0, q1⟩ (Int.emod_nonneg _ (by omega)) (Int.emod_lt_of_pos _ hb)⟩
    · rw [decide_eq_false hp]
      refine ⟨_, rfl, ixP1 hl ?_⟩
      refine mulI (mulx_ok (a := 31) (b := 16) (by omega) (by decide) (by decide)) (addI (intI ?_))
      refine ⟨_, _, rfl, rfl, (show (0 : Int) < 2147483647 by decide), ?_⟩
      refine ⟨_, rfl, l, _, 1, 1, rfl, rfl, hl, rfl, ?_⟩
      have g0 := Int.emod_nonneg (q * 39373 + 7) (show (2147483647 : Int) ≠ 0 by decide)
      have g1 := Int.emod_lt_of_pos (q * 39373 + 7) (show (0 : Int) < 2147483647 by decide)
      have hl2 : (upd H l (.lst ([V.int p, .int q].set 1 (.int ((q * 39373 + 7) % 2147483647))))) l = some (.lst [.int p, .int ((q * 39373 + 7) % 2147483647)]) := upd_same
      refine ⟨_, rfl, ixP1 hl2 ?_⟩
      refine ⟨_, rfl, ixP1 hl2 ?_⟩
      refine mulI (mulx_ok (a := 31) (b := 31) (by omega) (by omega) (by decide)) (intI ?_)
      refine ⟨_, _, rfl, rfl, (show (0 : Int) < 2147483629 by decide), ?_⟩
      refine ⟨_, _, rfl, rfl, ⟨(show (0 : Int) < 32 by decide), by decide⟩, intI ?_⟩
      refine ⟨_, rfl, _, _, rfl, rfl, hb, ?_⟩
      exact k _ _ (But.upd) ⟨_, _, hl2, g0, g1⟩ (Int.emod_nonneg _ (by omega)) (Int.emod_lt_of_pos _ hb)
def spOne (K : PySem.W.Frag) : Sp := fun vs H Q _ => ∃ (l : Addr) (x : V), vs = [.ref l, x] ∧ PoolAt H l ∧
  ((∃ p xs, x = .ref p ∧ p ≠ l ∧ SqL K H p xs ∧ xs ≠ [] ∧ xs.length < 1000 ∧ ∀ (i : Nat) y H', But l H H' → PoolAt H' l → xs[i]? = some y → Q y H') ∨ (∃ z : Str, x = .str z ∧ 0 < z.length ∧ z.length < 1000 ∧ ∀ c H', But l H H' → PoolAt H' l → c ∈ ls z → Q (.str (tx [c])) H'))
theorem ok_one (T : Tx P K mg a) : FnOk P w K mg base CX0 2 a.f__law_one a.d__law_one ["pool", "things"] (spOne K) := by
  have F1 : FnOk P w K mg base CX0 1 a.f__law_take a.d__law_take ["pool", "bound"] spTake := ok_take T
  refine T._law_one.fn.ok sc__law_one (fun vs H Q E h => ?_) (fun cdv A outer s H vs Q E hr h => ?_)
  · obtain ⟨l, b, rfl, _⟩ := h
    rfl
  · obtain ⟨l, x, rfl, hP, h⟩ := h
    refine ⟨_, (pss_one (ps_ret (pe_ix ix_A (pv 1) (pe_cf T._law_take F1 hr (pa_cons (pv 0) (pa_cons (cb_len T.bi (pa_cons (pv 1) pa_nil)) pa_nil))) (fun _ _ => rfl)))), ?_⟩
    rcases h with ⟨p, xs, rfl, ne, hx, h0, h1, k⟩ | ⟨z, rfl, h0, h1, k⟩
    · refine ⟨_, rfl, _, rfl, _, rfl, lenL hx ?_⟩
      have : 0 < xs.length := List.length_pos_iff.mpr h0
      refine ⟨l, _, rfl, hP, by omega, by omega, fun r H1 b1 hP1 r0 r1 => ?_⟩
      obtain ⟨i, rfl⟩ := Int.eq_ofNat_of_zero_le r0
      have hi : i < xs.length := Int.ofNat_lt.mp r1
      exact ixL (But.sql b1 ne hx) (List.getElem?_eq_getElem hi) (k i _ _ b1 hP1 (List.getElem?_eq_getElem hi))
    · have zl : z.length ≤ sizeLine := by have := PySem.sizeLine_eq; omega
      refine ⟨_, rfl, _, rfl, _, rfl, lenS zl ?_⟩
      refine ⟨l, _, rfl, hP, by omega, by omega, fun r H1 b1 hP1 r0 r1 => ?_⟩
      obtain ⟨i, rfl⟩ := Int.eq_ofNat_of_zero_le r0
      have hi : i < (ls z).length := by rw [ls_len]; exact Int.ofNat_lt.mp r1
      exact ixS zl (List.getElem?_eq_getElem hi) (k _ _ b1 hP1 (List.getElem_mem hi))
end
end Z
set_option maxRecDepth 100000
set_option maxHeartbeats 4000000
namespace Z
open PySem PySem.Spec PyProof.Rows L2
namespace Tr
def lv : Tr → List V
  | .con n => [.int n]
  | .var w => [.str w]
  | .cho a b c e => a.lv ++ b.lv ++ c.lv ++ e.lv
def ws : Tr → List Str
  | .con _ => []
  | .var w => [w]
  | .cho a b c e => a.ws ++ b.ws ++ c.ws ++ e.ws
def ns : Tr → List Int
  | .con n => [n]
  | .var _ => []
  | .cho a b c e => a.ns ++ b.ns ++ c.ns ++ e.ns
def kind : Tr → Str
  | .con _ => "constant"
  | .var _ => "variable"
  | .cho _ _ _ _ => "choice"
end Tr
def strV : V → Option Str
  | .str z => some z
  | _ => none
def intV : V → Option Int
  | .int z => some z
  | _ => none
theorem lv_ws : ∀ t : Tr, t.lv.filterMap strV = t.ws
  | .con n => rfl
  | .var w => rfl
  | .cho a b c e => by
    unfold Tr.lv Tr.ws
    rw [List.filterMap_append, List.filterMap_append, List.filterMap_append, lv_ws a, lv_ws b, lv_ws c, lv_ws e]
theorem lv_ns : ∀ t : Tr, t.lv.filterMap intV = t.ns
  | .con n => rfl
  | .var w => rfl
  | .cho a b c e => by
    unfold Tr.lv Tr.ns
    rw [List.filterMap_append, List.filterMap_append, List.filterMap_append, lv_ns a, lv_ns b, lv_ns c, lv_ns e]
def Leaf (v : V) : Prop := (∃ z, v = .str z ∧ Word z) ∨ ∃ n, v = .int n ∧ 0 ≤ n ∧ n ≤ 9
theorem lv_leaf : ∀ {t : Tr}, t.Ok → ∀ v ∈ t.lv, Leaf v
  | .con n, ok, v, h => .inr ⟨n, List.mem_singleton.mp h, ok.1, ok.2⟩
  | .var w, ok, v, h => .inl ⟨w, List.mem_singleton.mp h, ok⟩
  | .cho a b c e, ok, v, h => by
    obtain ⟨oa, ob, oc, oe⟩ : a.Ok ∧ b.Ok ∧ c.Ok ∧ e.Ok := ok
    unfold Tr.lv at h
    rw [List.mem_append, List.mem_append, List.mem_append] at h
    rcases h with ((h | h) | h) | h
    · exact lv_leaf oa v h
    · exact lv_leaf ob v h
    · exact lv_leaf oc v h
    · exact lv_leaf oe v h
theorem lv_len : ∀ t : Tr, t.lv.length ≤ 4 ^ (t.deep - 1)
  | .con n => Nat.le_refl _
  | .var w => Nat.le_refl _
  | .cho a b c e => by
    have h1 := lv_len a
    have h2 := lv_len b
    have h3 := lv_len c
    have h4 := lv_len e
    have d1 := deep_pos a
    have d2 := deep_pos b
    have d3 := deep_pos c
    have d4 := deep_pos e
    have hd : (Tr.cho a b c e).deep = 1 + max (max a.deep b.deep) (max c.deep e.deep) := rfl
    generalize em : max (max a.deep b.deep) (max c.deep e.deep) = m at hd
    have up : ∀ {x : Nat}, 1 ≤ x → x ≤ m → 4 ^ (x - 1) ≤ 4 ^ (m - 1) := fun {x} h1 h2 => Nat.pow_le_pow_right (by decide) (by omega)
    have u1 := up d1 (by omega)
    have u2 := up d2 (by omega)
    have u3 := up d3 (by omega)
    have u4 := up d4 (by omega)
    have hm : 1 ≤ m := by omega
    have e4 : 4 ^ ((Tr.cho a b c e).deep - 1) = 4 * 4 ^ (m - 1) := by
      rw [hd, show 1 + m - 1 = (m - 1) + 1 by omega, Nat.pow_succ, Nat.mul_comm]
    rw [e4]
    unfold Tr.lv
    rw [List.length_append, List.length_append, List.length_append]
    omega
theorem lv_16 {t : Tr} (h : t.deep ≤ 3) : t.lv.length ≤ 16 := by
  have h1 := lv_len t
  have h2 : 4 ^ (t.deep - 1) ≤ 4 ^ 2 := Nat.pow_le_pow_right (by decide) (by omega)
  omega
theorem flat_leaf {v : V} (h : Leaf v) : flatV v = true := by
  rcases h with ⟨z, rfl, _⟩ | ⟨n, rfl, _⟩ <;> rfl
theorem ws_len (t : Tr) : t.ws.length ≤ t.lv.length := by
  rw [← lv_ws]
  exact List.length_filterMap_le ..
theorem ns_len (t : Tr) : t.ns.length ≤ t.lv.length := by
  rw [← lv_ns]
  exact List.length_filterMap_le ..
theorem ws_word {t : Tr} (ok : t.Ok) : ∀ z ∈ t.ws, Word z := fun z h => by
  rw [← lv_ws] at h
  obtain ⟨v, hv, e⟩ := List.mem_filterMap.mp h
  rcases lv_leaf ok v hv with ⟨y, rfl, hy⟩ | ⟨n, rfl, _⟩
  · cases e
    exact hy
  · cases e
theorem ns_small {t : Tr} (ok : t.Ok) : ∀ z ∈ t.ns, 0 ≤ z ∧ z ≤ 9 := fun z h => by
  rw [← lv_ns] at h
  obtain ⟨v, hv, e⟩ := List.mem_filterMap.mp h
  rcases lv_leaf ok v hv with ⟨y, rfl, hy⟩ | ⟨n, rfl, hn⟩
  · cases e
  · cases e
    exact hn
theorem sl1k : 1000 ≤ sizeLine := by decide
theorem back_none {H H' : Hp} {q : Addr} (s : Same H H') (n : H' q = none) : H q = none := by
  cases e : H q with
  | none => rfl
  | some o =>
    have := s _ _ e
    rw [n] at this
    cases this
end Z
set_option maxRecDepth 100000
set_option maxHeartbeats 4000000
namespace Z
open PySem PySem.Spec PyProof.Rows L2
theorem ls_join0 : ∀ ys : List Str, ls (Str.join ("" : Str) ys) = (ys.map ls).flatten
  | [] => rfl
  | [x] => by
    show ls x = _
    simp
  | x :: y :: r => by
    show ls (x ++ ("" : Str) ++ Str.join ("" : Str) (y :: r)) = _
    rw [ls_app, ls_app, ls_join0 (y :: r)]
    have : ls ("" : Str) = [] := by decide +kernel
    rw [this]
    simp
def Short (w : Str) : Prop := 1 ≤ w.length ∧ w.length ≤ 5 ∧ ∀ c ∈ ls w, isLB c = true
theorem Short.word {w : Str} (h : Short w) : Word w := ⟨h.1, by have := h.2.1; omega, fun c hc => isLB_iff.mp (h.2.2 c hc)⟩
theorem sl10 : 1000 ≤ sizeLine := by decide
theorem But.fr {l D : Addr} {H H' : Hp} {o : HO} (hD : H D = none) (b : But l H H') : But l H (L2.upd H' D o) := fun c u hc e => by
  rw [upd_ne (ne_of_none e hD)]
  exact b c u hc e
theorem txj (sep : Str) (ys : List Str) : Txt.join sep ys = Str.join sep ys := PySem.StrLaws.glued_eq_join sep ys
theorem But.non {l D : Addr} {H HB : Hp} (b : But l H HB) (ne : D ≠ l) (n : HB D = none) : H D = none := by
  cases e : H D with
  | none => rfl
  | some o =>
    have := b D o ne e
    rw [n] at this
    cases this
theorem But.fr2 {l D : Addr} {H HB H' : Hp} {o : HO} (b : But l H HB) (ne : D ≠ l) (n : HB D = none) (b2 : But l H H') : But l H (L2.upd H' D o) := But.fr (b.non ne n) b2
theorem ixSm {K : PySem.W.Frag} {H : Hp} {Q : VK} {z : Str} {i : Int} (hz : z.length ≤ sizeLine) (h0 : 0 ≤ i) (h1 : i < z.length) (q : ∀ c, c ∈ ls z → Q (.str (tx [c])) H) : rIxA K (.str z) (.int i) H Q := by
  obtain ⟨j, rfl⟩ := Int.eq_ofNat_of_zero_le h0
  have hj : j < (ls z).length := by rw [ls_len]; exact Int.ofNat_lt.mp h1
  exact ixS hz (List.getElem?_eq_getElem hj) (q _ (List.getElem_mem hj))
def Sgn (y : Str) : Prop := ∃ c, y = tx [c] ∧ isLB c = true
theorem join_sgn : ∀ {ys : List Str}, (∀ y ∈ ys, Sgn y) → (Str.join ("" : Str) ys).length = ys.length ∧ (∀ c ∈ ls (Str.join ("" : Str) ys), isLB c = true) ∧ (ys.map (·.length)).sum = ys.length := by
  intro ys h
  rw [← ls_len, ls_join0]
  induction ys with
  | nil => exact ⟨rfl, fun c hc => by simp at hc, rfl⟩
  | cons y ys ih =>
    obtain ⟨c, rfl, hc⟩ := h y List.mem_cons_self
    obtain ⟨h1, h2, h3⟩ := ih fun z hz => h z (List.mem_cons_of_mem _ hz)
    refine ⟨by simp only [List.map_cons, List.flatten_cons, List.length_append, ls_tx, h1, List.length_cons, List.length_nil]; omega, fun d hd => ?_, by simp only [List.map_cons, List.sum_cons, h3, tx_len, List.length_cons, List.length_nil]; omega⟩
    rw [List.map_cons, List.flatten_cons, ls_tx, List.mem_append] at hd
    rcases hd with hd | hd
    · rw [List.mem_singleton] at hd
      rw [hd]
      exact hc
    · exact h2 d hd
theorem snoc_all {α : Type} {p : α → Prop} {l : List α} {x : α} (h : ∀ y ∈ l, p y) (hx : p x) : ∀ y ∈ l ++ [x], p y := fun y hy => by
  rcases List.mem_append.mp hy with hy | hy
  · exact h y hy
  · rw [List.mem_singleton] at hy
    rw [hy]
    exact hx
theorem mem_sLet {c : Nat} (h : c ∈ ls ("abcdefghijklmnopqrstuvwxyz" : Str)) : isLB c = true := by
  have := mem_let' c
  rw [← this]
  exact decide_eq_true h
theorem len_sLet : ("abcdefghijklmnopqrstuvwxyz" : Str).length = 26 := by decide +kernel
section
variable {P : Program} {w : World} {K : PySem.W.Frag} {mg : Str → Option Value} {base : Heap} {a : Ad}
theorem PoolAt.same {H H' : Hp} {l : Addr} (e : Same H H') (h : PoolAt H l) : PoolAt H' l := by
  obtain ⟨p, q, h1, h2⟩ := h
  exact ⟨p, q, e _ _ h1, h2⟩
theorem PoolAt.ne {H : Hp} {l : Addr} (h : PoolAt H l) {D : Addr} (hD : H D = none) : l ≠ D := by
  obtain ⟨p, q, h1, h2⟩ := h
  exact ne_of_none h1 hD
theorem PoolAt.upd {H : Hp} {l D : Addr} {o : HO} (h : PoolAt H l) (ne : l ≠ D) : PoolAt (L2.upd H D o) l := by
  obtain ⟨p, q, h1, h2⟩ := h
  exact ⟨p, q, by rw [upd_ne ne]; exact h1, h2⟩
theorem ixSi {K : PySem.W.Frag} {H : Hp} {Q : VK} {z : Str} {n c : Nat} {j : Int} (h : z.length ≤ sizeLine) (e : (ls z)[n]? = some c) (hj : j = (n : Int)) (q : Q (.str (tx [c])) H) : rIxA K (.str z) (.int j) H Q := by
  subst hj
  exact ixS h e q
def letN (r m : Int) (j : Nat) : Nat := 97 + ((r + m * (j : Int)) % 26).toNat
def lwd (hd tl : Str) (r m : Int) (j : Nat) : Str := hd ++ tx [letN r m j] ++ tl
theorem lets : ls ("abcdefghijklmnopqrstuvwxyz" : Str) = (List.range 26).map (97 + ·) := by decide +kernel
theorem let_at {r m : Int} {j : Nat} : (ls ("abcdefghijklmnopqrstuvwxyz" : Str))[((r + m * (j : Int)) % 26).toNat]? = some (letN r m j) := by
  have h0 := Int.emod_nonneg (r + m * (j : Int)) (show (26 : Int) ≠ 0 by decide)
  have h1 := Int.emod_lt_of_pos (r + m * (j : Int)) (show (0 : Int) < 26 by decide)
  rw [lets, List.getElem?_map, List.getElem?_range (by omega)]
  rfl
theorem letN_lb {r m : Int} {j : Nat} : isLB (letN r m j) = true := mem_sLet (List.mem_of_getElem? (let_at (r := r) (m := m) (j := j)))
theorem letN_inj {r m : Int} {i j : Nat} (hm : m = 1 ∨ m = 3 ∨ m = 5 ∨ m = 7 ∨ m = 9 ∨ m = 11 ∨ m = 15 ∨ m = 17 ∨ m = 19 ∨ m = 21 ∨ m = 23 ∨ m = 25) (hi : i < 26) (hj : j < 26) (h : letN r m i = letN r m j) : i = j := by
  unfold letN at h
  have a0 := Int.emod_nonneg (r + m * (i : Int)) (show (26 : Int) ≠ 0 by decide)
  have b0 := Int.emod_nonneg (r + m * (j : Int)) (show (26 : Int) ≠ 0 by decide)
  rcases hm with rfl | rfl | rfl | rfl | rfl | rfl | rfl | rfl | rfl | rfl | rfl | rfl <;> omega
theorem lwd_inj {hd tl : Str} {r m : Int} {i j : Nat} (hm : m = 1 ∨ m = 3 ∨ m = 5 ∨ m = 7 ∨ m = 9 ∨ m = 11 ∨ m = 15 ∨ m = 17 ∨ m = 19 ∨ m = 21 ∨ m = 23 ∨ m = 25) (hi : i < 26) (hj : j < 26) (h : lwd hd tl r m i = lwd hd tl r m j) : i = j := by
  have e := congrArg ls h
  unfold lwd at e
  rw [ls_app, ls_app, ls_app, ls_app, ls_tx, ls_tx] at e
  have e := List.append_cancel_left (List.append_cancel_right e)
  exact letN_inj hm hi hj (List.cons.inj e).1
def lwds (hd tl : Str) (r m : Int) (n : Nat) : List Str := (List.range n).map (lwd hd tl r m)
theorem lwds_nodup {hd tl : Str} {r m : Int} {n : Nat} (hm : m = 1 ∨ m = 3 ∨ m = 5 ∨ m = 7 ∨ m = 9 ∨ m = 11 ∨ m = 15 ∨ m = 17 ∨ m = 19 ∨ m = 21 ∨ m = 23 ∨ m = 25) (hn : n ≤ 26) : (lwds hd tl r m n).Nodup := by
  unfold lwds
  rw [List.Nodup, List.pairwise_map]
  refine List.Pairwise.imp_of_mem ?_ (List.nodup_range (n := n))
  intro i j hi hj ne e
  have := List.mem_range.mp hi
  have := List.mem_range.mp hj
  exact ne (lwd_inj hm (by omega) (by omega) e)
theorem lwds_len {hd tl : Str} {r m : Int} {n : Nat} : (lwds hd tl r m n).length = n := by
  unfold lwds
  rw [List.length_map, List.length_range]
theorem lwds_succ {hd tl : Str} {r m : Int} {n : Nat} : lwds hd tl r m (n + 1) = lwds hd tl r m n ++ [lwd hd tl r m n] := by
  unfold lwds
  rw [List.range_succ, List.map_append]
  rfl
theorem lwd_short {hd tl : Str} {r m : Int} {j : Nat} (h1 : hd.length ≤ 2) (h2 : tl.length ≤ 2) (m1 : ∀ c ∈ ls hd, isLB c = true) (m2 : ∀ c ∈ ls tl, isLB c = true) : Short (lwd hd tl r m j) := by
  unfold lwd
  refine ⟨?_, ?_, ?_⟩
  · rw [len_app, len_app, tx_len]
    show 1 ≤ _ + 1 + _
    omega
  · rw [len_app, len_app, tx_len]
    show _ + 1 + _ ≤ 5
    omega
  · intro d hd
    rw [ls_app, ls_app, ls_tx, List.mem_append, List.mem_append, List.mem_singleton] at hd
    rcases hd with (hd | rfl) | hd
    · exact m1 d hd
    · exact letN_lb
    · exact m2 d hd
theorem lwds_short {hd tl : Str} {r m : Int} {n : Nat} (h1 : hd.length ≤ 2) (h2 : tl.length ≤ 2) (m1 : ∀ c ∈ ls hd, isLB c = true) (m2 : ∀ c ∈ ls tl, isLB c = true) : ∀ y ∈ lwds hd tl r m n, Short y := by
  intro y hy
  obtain ⟨j, _, rfl⟩ := List.mem_map.mp hy
  exact lwd_short h1 h2 m1 m2
def spWordsN (K : PySem.W.Frag) : Sp := fun vs H Q _ => ∃ (l : Addr) (n : Nat), vs = [.ref l, .int n] ∧ n ≤ 26 ∧ PoolAt H l ∧
  ∀ (p : Addr) (ws : List Str) (H' : Hp), But l H H' → PoolAt H' l → p ≠ l → H p = none → H' p = some (.lst (ws.map V.str)) → ws.length = n → ws.Nodup → (∀ y ∈ ws, Short y) → Q (.ref p) H'
theorem ok_wordsN (T : Tx P K mg a) : FnOk P w K mg base CX0 3 a.f__law_words a.d__law_words ["pool", "bound"] (spWordsN K) := by
  have F1 : FnOk P w K mg base CX0 1 a.f__law_take a.d__law_take ["pool", "bound"] spTake := ok_take T
  have F2 : FnOk P w K mg base CX0 2 a.f__law_one a.d__law_one ["pool", "things"] (spOne K) := ok_one T
  refine T._law_words.fn.ok sc__law_words (fun vs H Q E h => ?_) (fun cdv A outer s H vs Q E hr h => ?_)
  · obtain ⟨l, n, rfl, _⟩ := h
    rfl
  · obtain ⟨l, n, rfl, hn, hP, k⟩ := h
    have nd := sc__law_words.nd
    have hr1 : Room 1 _ := hr.mono (by decide)
    refine ⟨_, (pss_cons (ps_set (i := 2) nd rfl (Or.inr rfl) pe_str)
      (pss_cons (ps_asg (pe_tup (pa_cons (pe_cf T._law_take F1 hr1 (pa_cons (pv 0) (pa_cons pe_int pa_nil))) (pa_cons (pe_cf T._law_one F2 hr (pa_cons (pv 0) (pa_cons (pe_lst (pa_cons pe_int (pa_cons pe_int (pa_cons pe_int (pa_cons pe_int (pa_cons pe_int (pa_cons pe_int (pa_cons pe_int (pa_cons pe_int (pa_cons pe_int (pa_cons pe_int (pa_cons pe_int (pa_cons pe_int pa_nil))))))))))))) pa_nil))) pa_nil))) (pg_tup rfl (pgs_cons (pg_name (i := 3) nd rfl (Or.inr rfl)) (pgs_cons (pg_name (i := 4) nd rfl (Or.inr rfl)) pgs_nil))))
      (pss_cons (ps_set (i := 5) nd rfl (Or.inr rfl) (pe_join pe_str (pe_lc (own := [("turn", 7)]) (by rfl) nd (pi_range1 rfl T.bi.range (pa_cons (pe_cf T._law_take F1 hr1 (pa_cons (pv 0) (pa_cons pe_int pa_nil))) pa_nil)) (blkOk_by (own := [("turn", 7)]) (N := ["pool", "bound", "letters", "first", "stride", "head", "tail", "turn", "spot"]) (sc := defScope s__law_words) (by decide +kernel)) (fun _ _ _ _ _ => (pg_name (i := 7) nd rfl (Or.inl rfl))) (fun _ _ _ _ _ => pts_nil) (fun _ _ _ _ _ => (pe_cf T._law_one F2 hr (pa_cons (pv 0) (pa_cons (pv 2) pa_nil)))))))
      (pss_cons (ps_set (i := 6) nd rfl (Or.inr rfl) (pe_join pe_str (pe_lc (own := [("turn", 7)]) (by rfl) nd (pi_range1 rfl T.bi.range (pa_cons (pe_cf T._law_take F1 hr1 (pa_cons (pv 0) (pa_cons pe_int pa_nil))) pa_nil)) (blkOk_by (own := [("turn", 7)]) (N := ["pool", "bound", "letters", "first", "stride", "head", "tail", "turn", "spot"]) (sc := defScope s__law_words) (by decide +kernel)) (fun _ _ _ _ _ => (pg_name (i := 7) nd rfl (Or.inl rfl))) (fun _ _ _ _ _ => pts_nil) (fun _ _ _ _ _ => (pe_cf T._law_one F2 hr (pa_cons (pv 0) (pa_cons (pv 2) pa_nil)))))))
      (pss_one (ps_ret (pe_lc (own := [("spot", 8)]) (by rfl) nd (pi_range1 rfl T.bi.range (pa_cons (pv 1) pa_nil)) (blkOk_by (own := [("spot", 8)]) (N := ["pool", "bound", "letters", "first", "stride", "head", "tail", "turn", "spot"]) (sc := defScope s__law_words) (by decide +kernel)) (fun _ _ _ _ _ => (pg_name (i := 8) nd rfl (Or.inl rfl))) (fun _ _ _ _ _ => pts_nil) (fun _ _ _ _ _ => (pe_op (op_addA (K := K)) (pe_op (op_addA (K := K)) (pv 5) (pe_ix (ix_A (K := K)) (pv 2) (pe_op op_mod (cb_int T.bi (pa_cons (pe_op (op_addA (K := K)) (pv 3) (pe_op op_mulA (pv 4) (pv 8))) pa_nil)) pe_int) (fun _ _ => rfl))) (pv 6)))))))))), ?_⟩
    refine ⟨_, rfl, l, 26, rfl, hP, by decide, by decide, fun r0 H1 b1 P1 r00 r01 => ?_⟩
    refine ⟨_, rfl, by show 12 ≤ sizeLine; decide, fun p1 n1 => ?_⟩
    have ne1 := P1.ne n1
    refine ⟨l, _, rfl, P1.upd ne1, .inl ⟨p1, _, rfl, ne1.symm, .inl (.inl upd_same), by simp, by show 12 < 1000; decide, fun i y H2 b2 P2 hy => ?_⟩⟩
    obtain ⟨m, rfl, hm⟩ : ∃ m : Int, y = .int m ∧ (m = 1 ∨ m = 3 ∨ m = 5 ∨ m = 7 ∨ m = 9 ∨ m = 11 ∨ m = 15 ∨ m = 17 ∨ m = 19 ∨ m = 21 ∨ m = 23 ∨ m = 25) := by
      have := List.mem_of_getElem? hy
      simp only [List.mem_cons, List.not_mem_nil, or_false] at this
      rcases this with rfl | rfl | rfl | rfl | rfl | rfl | rfl | rfl | rfl | rfl | rfl | rfl <;> exact ⟨_, rfl, by decide⟩
    have m0 : 0 ≤ m ∧ m ≤ 25 := by omega
    refine ⟨by show 2 ≤ sizeLine; decide, fun pt nt => ?_⟩
    refine ⟨pt, _, rfl, .inl (.inl upd_same), rfl, _, _, rfl, _, _, rfl, rfl, ?_⟩
    have bX : But l H (upd H2 pt (.tup [V.int r0, .int m])) := (b1.trans ((But.same (sNew n1) l).trans b2)).trans (But.same (sNew nt) l)
    have PX : PoolAt (upd H2 pt (.tup [V.int r0, .int m])) l := P2.upd (P2.ne nt)
    refine ⟨⟨_, rfl⟩, _, rfl, l, 3, rfl, PX, by decide, by decide, fun rA HA bA PA_ rA0 rA1 => ⟨rA, rfl, by omega, by omega, fun DA nA => ?_⟩⟩
    refine lc_it (walk_range (lo := 0) (n := rA.toNat)) (fun i H' => PoolAt H' l ∧ But l HA H' ∧ ∃ ys : List Str, H' DA = some (.lst (ys.map V.str)) ∧ ys.length = i ∧ ∀ y ∈ ys, Sgn y) ⟨PA_.upd (PA_.ne nA), But.fr nA (But.refl _ _), [], upd_same, rfl, fun y hy => nomatch hy⟩ (fun _ _ _ _ => trivial) ?_ ?_
    · rintro i x H2 H2' hi ⟨Pz, bz, ys, hA, ly, ay⟩ ⟨rfl, rfl⟩
      refine ⟨rfl, _, rfl, _, rfl, l, _, rfl, Pz, .inr ⟨_, rfl, by rw [len_sLet]; decide, by rw [len_sLet]; decide, fun c H3 b3 P3 hc => ?_⟩⟩
      have nDl : DA ≠ l := (PA_.ne nA).symm
      refine ⟨_, b3 _ _ nDl hA, by rw [List.length_map, ly]; have := sl10; omega, P3.upd nDl.symm, But.fr nA (bz.trans b3), ys ++ [tx [c]], by rw [upd_same, List.map_append]; rfl, by rw [List.length_append, ly]; rfl, snoc_all ay ⟨c, rfl, mem_sLet hc⟩⟩
    rintro HB1 ⟨PB1, bB, ys1, hA, ly, ay⟩
    obtain ⟨j1, j2, j3⟩ := join_sgn ay
    refine ⟨_, DA, ys1, rfl, rfl, .inl (.inl (.inl hA)), by rw [j3, show ("" : Str).length = 0 by decide +kernel]; omega, ?_⟩
    have bY1 := (bX.trans bA).trans bB
    have jl1 : (Txt.join ("" : Str) ys1).length ≤ 2 := by
      rw [txj, j1]
      omega
    have jm1 : ∀ c ∈ ls (Txt.join ("" : Str) ys1), isLB c = true := by
      rw [txj]
      exact j2
    clear bX bA bB PA_ ly hA j1 j2 j3 ay
    refine ⟨⟨_, rfl⟩, _, rfl, l, 3, rfl, PB1, by decide, by decide, fun rA HA bA PA_ rA0 rA1 => ⟨rA, rfl, by omega, by omega, fun DA nA => ?_⟩⟩
    refine lc_it (walk_range (lo := 0) (n := rA.toNat)) (fun i H' => PoolAt H' l ∧ But l HA H' ∧ ∃ ys : List Str, H' DA = some (.lst (ys.map V.str)) ∧ ys.length = i ∧ ∀ y ∈ ys, Sgn y) ⟨PA_.upd (PA_.ne nA), But.fr nA (But.refl _ _), [], upd_same, rfl, fun y hy => nomatch hy⟩ (fun _ _ _ _ => trivial) ?_ ?_
    · rintro i x H2 H2' hi ⟨Pz, bz, ys, hA, ly, ay⟩ ⟨rfl, rfl⟩
      refine ⟨rfl, _, rfl, _, rfl, l, _, rfl, Pz, .inr ⟨_, rfl, by rw [len_sLet]; decide, by rw [len_sLet]; decide, fun c H3 b3 P3 hc => ?_⟩⟩
      have nDl : DA ≠ l := (PA_.ne nA).symm
      refine ⟨_, b3 _ _ nDl hA, by rw [List.length_map, ly]; have := sl10; omega, P3.upd nDl.symm, But.fr nA (bz.trans b3), ys ++ [tx [c]], by rw [upd_same, List.map_append]; rfl, by rw [List.length_append, ly]; rfl, snoc_all ay ⟨c, rfl, mem_sLet hc⟩⟩
    rintro HB2 ⟨PB2, bB, ys2, hA, ly, ay⟩
    obtain ⟨j1, j2, j3⟩ := join_sgn ay
    refine ⟨_, DA, ys2, rfl, rfl, .inl (.inl (.inl hA)), by rw [j3, show ("" : Str).length = 0 by decide +kernel]; omega, ?_⟩
    have bY2 := (bY1.trans bA).trans bB
    have jl2 : (Txt.join ("" : Str) ys2).length ≤ 2 := by
      rw [txj, j1]
      omega
    have jm2 : ∀ c ∈ ls (Txt.join ("" : Str) ys2), isLB c = true := by
      rw [txj]
      exact j2
    clear bY1 bA bB PA_ ly hA j1 j2 j3 ay
    refine ⟨_, rfl, (n : Int), rfl, by omega, by omega, fun D nD => ?_⟩
    have nDl := PB2.ne nD
    have lh := lwds_short (hd := Txt.join ("" : Str) ys1) (tl := Txt.join ("" : Str) ys2) (r := r0) (m := m) (n := n) jl1 jl2 jm1 jm2
    have ln := lwds_nodup (hd := Txt.join ("" : Str) ys1) (tl := Txt.join ("" : Str) ys2) (r := r0) (m := m) (n := n) hm hn
    refine lc_it (walk_range (lo := 0) (n := (n : Int).toNat)) (fun i H' => PoolAt H' l ∧ But l H H' ∧ H' D = some (.lst ((lwds (Txt.join ("" : Str) ys1) (Txt.join ("" : Str) ys2) r0 m i).map V.str))) ⟨PB2.upd nDl, bY2.trans (But.same (sNew nD) l), upd_same⟩ (fun _ _ _ _ => trivial) ?_ ?_
    · rintro i x H2 H2' hi ⟨Pz, bz, hA⟩ ⟨rfl, rfl⟩
      have hi' : i < n := hi
      have S26 := len_sLet
      have sl := sl10
      refine ⟨rfl, _, rfl, _, rfl, _, rfl, _, rfl, _, rfl, mulI (mulx_ok (a := 10) (b := 10) (by omega) (by omega) (by decide)) (addI (intI ?_))⟩
      refine ⟨_, _, rfl, rfl, (show (0 : Int) < 26 by decide), ?_⟩
      have n0 := Int.emod_nonneg (r0 + m * (i : Int)) (show (26 : Int) ≠ 0 by decide)
      refine ixSi (n := ((r0 + m * (i : Int)) % 26).toNat) (by rw [S26]; decide) let_at (by rw [Int.zero_add]; omega) ?_
      refine addS (by rw [tx_len]; show _ + 1 ≤ _; omega) ⟨_, rfl, addS (by rw [len_app, tx_len]; show _ + 1 + _ ≤ _; omega) ?_⟩
      have wsl : (lwds (Txt.join ("" : Str) ys1) (Txt.join ("" : Str) ys2) r0 m i).length < sizeLine := by rw [lwds_len]; omega
      refine ⟨_, hA, by rw [List.length_map]; exact wsl, Pz.upd nDl, But.fr2 bY2 nDl.symm nD bz, ?_⟩
      rw [upd_same, lwds_succ, List.map_append]
      rfl
    · rintro H3 ⟨P3, b3, hA⟩
      exact k D _ H3 b3 P3 nDl.symm (bY2.non nDl.symm nD) hA lwds_len ln lh
end
end Z
set_option maxRecDepth 100000
set_option maxHeartbeats 4000000
namespace Z
open PySem PySem.Spec PyProof.Rows L2
theorem But.tr {K : PySem.W.Frag} {l : Addr} {H H' : Hp} (b : But l H H') (h : PoolAt H l) {t : Tr} {v : V} (d : Dp K H v t.d) : Dp K H' v t.d := by
  obtain ⟨p, q, h1, _⟩ := h
  exact tr_tk (b.tk h1) t d
theorem But.trs {K : PySem.W.Frag} {l : Addr} {H H' : Hp} (b : But l H H') (h : PoolAt H l) {ts : List Tr} {vs : List V} (d : DpAll K H vs (ts.map Tr.d)) : DpAll K H' vs (ts.map Tr.d) := by
  obtain ⟨p, q, h1, _⟩ := h
  exact dpAll_tk (b.tk h1) d
section
variable {P : Program} {w : World} {K : PySem.W.Frag} {mg : Str → Option Value} {base : Heap} {a : Ad}
def Tr.Of (ws : List Str) (ds : List Int) (t : Tr) : Prop := (∀ y ∈ t.ws, y ∈ ws) ∧ ∀ y ∈ t.ns, y ∈ ds
def spTreeG (K : PySem.W.Frag) (n : Nat) : Sp := fun vs H Q _ => ∃ (l pw pd : Addr) (ws : List Str) (ds : List Int), vs = [.ref l, .ref pw, .ref pd, .int (n : Nat)] ∧ PoolAt H l ∧ pw ≠ l ∧ pd ≠ l ∧ H pw = some (.lst (ws.map V.str)) ∧ H pd = some (.lst (ds.map V.int)) ∧
  ws ≠ [] ∧ ws.length < 1000 ∧ ds.length < 1000 ∧ (∀ y ∈ ws, Word y) ∧ (∀ y ∈ ds, 0 ≤ y ∧ y ≤ 9) ∧ 1 ≤ n ∧
  ∀ (v : V) (t : Tr) H', But l H H' → PoolAt H' l → Dp K H' v t.d → t.Ok → t.deep ≤ n → t.Of ws ds → Q v H'
theorem map_at {α : Type} {f : α → V} {xs : List α} {i : Nat} {y : V} (h : (xs.map f)[i]? = some y) : ∃ x, xs[i]? = some x ∧ y = f x := by
  rw [List.getElem?_map] at h
  cases e : xs[i]? with
  | none => rw [e] at h; cases h
  | some x => rw [e] at h; cases h; exact ⟨x, rfl, rfl⟩
theorem cho_of {ws : List Str} {ds : List Int} {a b c e : Tr} (h1 : a.Of ws ds) (h2 : b.Of ws ds) (h3 : c.Of ws ds) (h4 : e.Of ws ds) : (Tr.cho a b c e).Of ws ds := by
  refine ⟨fun y hy => ?_, fun y hy => ?_⟩
  · have hy : y ∈ a.ws ++ b.ws ++ c.ws ++ e.ws := hy
    rw [List.mem_append, List.mem_append, List.mem_append] at hy
    rcases hy with ((h | h) | h) | h
    · exact h1.1 y h
    · exact h2.1 y h
    · exact h3.1 y h
    · exact h4.1 y h
  · have hy : y ∈ a.ns ++ b.ns ++ c.ns ++ e.ns := hy
    rw [List.mem_append, List.mem_append, List.mem_append] at hy
    rcases hy with ((h | h) | h) | h
    · exact h1.2 y h
    · exact h2.2 y h
    · exact h3.2 y h
    · exact h4.2 y h
theorem ok_treeG (T : Tx P K mg a) : ∀ n : Nat, FnOk P w K mg base CX0 (n + 3) a.f__law_tree a.d__law_tree ["pool", "words", "digits", "deep"] (spTreeG K n)
  | 0 => fnNo fun vs H Q E ⟨_, _, _, _, _, _, _, _, _, _, _, _, _, _, _, _, h, _⟩ => by omega
  | n + 1 => by
    have IH : FnOk P w K mg base CX0 (n + 3) a.f__law_tree a.d__law_tree ["pool", "words", "digits", "deep"] (spTreeG K n) := ok_treeG T n
    have F1 : FnOk P w K mg base CX0 1 a.f__law_take a.d__law_take ["pool", "bound"] spTake := ok_take T
    have F2 : FnOk P w K mg base CX0 2 a.f__law_one a.d__law_one ["pool", "things"] (spOne K) := ok_one T
    refine T._law_tree.fn.ok sc__law_tree (fun vs H Q E h => ?_) (fun cdv A outer s H vs Q E hr h => ?_)
    · obtain ⟨l, pw, pd, ws, ds, rfl, _⟩ := h
      rfl
    · obtain ⟨l, pw, pd, ws, ds, rfl, hP, nw, ndl, hw, hd, w0, wl, dl, wW, dD, hn, k⟩ := h
      have nd := sc__law_tree.nd
      have hr1 : Room 1 _ := hr.mono (by omega)
      have hr2 : Room 2 _ := hr.mono (by omega)
      refine ⟨_, (pss_cons (ps_if (PW.pt (pw_and (pt_cmpR op_gt (pv 3) pe_int (nomark _)) (pw_and1 (pt_cmpR (op_eqX hr) (pe_cf T._law_take F1 hr1 (pa_cons (pv 0) (pa_cons pe_int pa_nil))) pe_int (nomark _)))))
          (pss_one (ps_ret (cb_tuple T.bi (pa_cons (pe_lc (own := [("part", 4)]) (by rfl) nd (pi_range1 rfl T.bi.range (pa_cons pe_int pa_nil)) (blkOk_by (own := [("part", 4)]) (N := ["pool", "words", "digits", "deep", "part"]) (sc := defScope s__law_tree) (by decide +kernel)) (fun _ _ _ _ _ => (pg_name (i := 4) nd rfl (Or.inl rfl))) (fun _ _ _ _ _ => pts_nil) (fun _ _ _ _ _ => (pe_cf T._law_tree IH hr (pa_cons (pv 0) (pa_cons (pv 1) (pa_cons (pv 2) (pa_cons (pe_op op_sub (pv 3) pe_int) pa_nil))))))) pa_nil)))) pss_nil)
        (pss_cons (ps_if (PW.pt (pw_and (pt_cmpR (op_neX hr) (pv 2) (pe_lst pa_nil) (nomark _)) (pw_and1 (pt_cmpR (op_eqX hr) (pe_cf T._law_take F1 hr1 (pa_cons (pv 0) (pa_cons pe_int pa_nil))) pe_int (nomark _)))))
          (pss_one (ps_ret (pe_cf T._law_one F2 hr2 (pa_cons (pv 0) (pa_cons (pv 2) pa_nil))))) pss_nil)
        (pss_one (ps_ret (pe_cf T._law_one F2 hr2 (pa_cons (pv 0) (pa_cons (pv 1) pa_nil))))))), ?_⟩
      refine ⟨_, rfl, _, _, rfl, rfl, _, rfl, ?_⟩
      have rest : ∀ {H1 : Hp}, But l H H1 → PoolAt H1 l → (tSeq (tIfS (tAnd (tTest (tOp (rNeX K) (tVar 2) (tLst tNil))) (tTest (tOp (rEqX K) (tCall spTake [] E0 (tCons (tVar 0) (tCons (tC (.int 3)) tNil))) (tC (.int 0))))) (tRet (tCall (spOne K) [] E0 (tCons (tVar 0) (tCons (tVar 2) tNil)))) tNext) (tRet (tCall (spOne K) [] E0 (tCons (tVar 0) (tCons (tVar 1) tNil)))))
          { nx := fun _ H' => Q .non H', rt := Q } [some (.ref l), some (.ref pw), some (.ref pd), some (.int ((n + 1 : Nat) : Int)), none] H1 := by
        intro H1 b1 P1
        have hd1 := b1 _ _ ndl hd
        have hw1 := b1 _ _ nw hw
        have leafW : ∀ {H2 : Hp}, But l H H2 → PoolAt H2 l → spOne K [.ref l, .ref pw] H2 Q L2.E0 := fun {H2} b2 P2 => by
          refine ⟨l, _, rfl, P2, .inl ⟨pw, _, rfl, nw, .inl (.inl (b2 _ _ nw hw)), fun e => w0 (List.map_eq_nil_iff.mp e), by rw [List.length_map]; exact wl, fun i y HZ bZ PZ hy => ?_⟩⟩
          obtain ⟨z, hz, rfl⟩ := map_at hy
          have hm := List.mem_of_getElem? hz
          exact k _ (.var z) _ (b2.trans bZ) PZ (.str z) (wW z hm) (show 1 ≤ n + 1 by omega) ⟨fun y hy => by rw [List.mem_singleton.mp hy]; exact hm, fun y hy => nomatch hy⟩
        refine ⟨_, rfl, Nat.zero_le _, fun pe ne => ?_⟩
        refine neL0 (.inl (.inl (by rw [upd_ne (ne_of_none hd1 ne)]; exact hd1))) upd_same ?_
        have b2 : But l H (upd H1 pe (.lst [])) := b1.trans (But.same (sNew ne) l)
        have P2 : PoolAt (upd H1 pe (.lst [])) l := P1.upd (P1.ne ne)
        refine ⟨_, rfl, ?_⟩
        cases hds : ds with
        | nil => exact ⟨_, rfl, _, rfl, leafW b2 P2⟩
        | cons d0 dr =>
          have ne0 : ds ≠ [] := by rw [hds]; exact List.cons_ne_nil _ _
          refine ⟨_, rfl, l, 3, rfl, P2, by decide, by decide, fun r HY bY PY r0 r1 => ?_⟩
          have bA := b2.trans bY
          refine eqI ?_
          refine ⟨_, rfl, ?_⟩
          by_cases hz : r = 0
          · rw [decide_eq_true hz]
            refine ⟨_, rfl, _, rfl, l, _, rfl, PY, .inl ⟨pd, _, rfl, ndl, .inl (.inl (bA _ _ ndl hd)), fun e => ne0 (List.map_eq_nil_iff.mp e), by rw [List.length_map]; exact dl, fun i y HZ bZ PZ hy => ?_⟩⟩
            obtain ⟨m, hm, rfl⟩ := map_at hy
            have hm := List.mem_of_getElem? hm
            exact k _ (.con m) _ (bA.trans bZ) PZ (.int m) (dD m hm) (show 1 ≤ n + 1 by omega) ⟨(fun y hy => nomatch hy), fun y hy => by rw [List.mem_singleton.mp hy]; exact hm⟩
          · rw [decide_eq_false hz]
            exact ⟨_, rfl, _, rfl, leafW bA PY⟩
      by_cases hn1 : (1 : Int) < ((n + 1 : Nat) : Int)
      · rw [decide_eq_true hn1]
        refine ⟨_, rfl, l, 3, rfl, hP, by decide, by decide, fun r H1 b1 P1 r0 r1 => ?_⟩
        refine eqI ?_
        refine ⟨_, rfl, ?_⟩
        by_cases hz : r = 0
        · rw [decide_eq_true hz]
          refine ⟨4, rfl, by decide, by decide, fun D nD => ?_⟩
          have nDl := P1.ne nD
          refine lc_it (walk_range (lo := 0) (n := (4 : Int).toNat)) (fun i H' => PoolAt H' l ∧ But l H H' ∧ ∃ (us : List V) (ts : List Tr), H' D = some (.lst us) ∧ DpAll K H' us (ts.map Tr.d) ∧ ts.length = i ∧ ∀ t ∈ ts, t.Ok ∧ t.deep ≤ n ∧ t.Of ws ds)
            ⟨P1.upd nDl, But.fr2 b1 nDl.symm nD b1, [], [], upd_same, .nil, rfl, fun y hy => nomatch hy⟩ (fun _ _ _ _ => trivial) ?_ ?_
          · rintro i x H2 H2' hi ⟨Pz, bz, us, ts, hA, hD, lt, at_⟩ ⟨rfl, rfl⟩
            have hi' : i < 4 := hi
            refine ⟨rfl, _, rfl, _, rfl, _, rfl, _, rfl, _, _, rfl, rfl, ?_⟩
            refine ⟨l, pw, pd, ws, ds, ?_, Pz, nw, ndl, bz _ _ nw hw, bz _ _ ndl hd, w0, wl, dl, wW, dD, by omega, fun v t H3 b3 P3 hv ok hdp of => ?_⟩
            · show [V.ref l, .ref pw, .ref pd, .int (((n + 1 : Nat) : Int) - 1)] = _
              rw [show ((n + 1 : Nat) : Int) - 1 = (n : Int) by omega]
            · have hA3 := b3 _ _ nDl.symm hA
              have ul : us.length < sizeLine := by
                have := DpAll.length hD
                rw [List.length_map] at this
                have := sl10
                omega
              have tkk : TK H3 (upd H3 D (.lst (us ++ [v]))) := TK.lst hA3
              refine ⟨us, hA3, ul, P3.upd nDl, But.fr2 b1 nDl.symm nD (bz.trans b3), us ++ [v], ts ++ [t], upd_same, ?_, by rw [List.length_append, lt]; rfl, snoc_all at_ ⟨ok, hdp, of⟩⟩
              exact dpAll_tk (ts := ts ++ [t]) tkk (by rw [List.map_append]; exact DpAll.app (b3.trs Pz hD) (.cons hv .nil))
          · rintro H2 ⟨P2, b2, us, ts, hA, hD, lt, at_⟩
            refine tupL (.inl (.inl hA)) fun p H3 n3 s3' hp => ?_
            match ts, lt with
            | [t1, t2, t3, t4], _ =>
              have a1 := at_ t1 (by simp)
              have a2 := at_ t2 (by simp)
              have a3 := at_ t3 (by simp)
              have a4 := at_ t4 (by simp)
              have hD' : DpAll K H3 us [t1.d, t2.d, t3.d, t4.d] := dpAll_same s3' hD
              refine k _ (.cho t1 t2 t3 t4) _ (b2.trans (But.same s3' l)) (P2.same s3') (.tup (.inl (.inl hp)) hD') ⟨a1.1, a2.1, a3.1, a4.1⟩ ?_ (cho_of a1.2.2 a2.2.2 a3.2.2 a4.2.2)
              show 1 + max (max t1.deep t2.deep) (max t3.deep t4.deep) ≤ n + 1
              omega
        · rw [decide_eq_false hz]
          exact rest b1 P1
      · rw [decide_eq_false hn1]
        exact rest (But.refl _ _) hP
end
end Z
set_option maxRecDepth 100000
set_option maxHeartbeats 4000000
namespace Z
open PySem PySem.Spec PyProof.Rows L2
theorem lk1 {m f : Str} {v : V} (h : (m == f) = false := by decide) : List.lookup m [(f, v)] = none := by simp [List.lookup, h]
theorem join_text2 (a b c e : Tr) : ("(" : Str) ++ a.text ++ "=" ++ b.text ++ "?" ++ c.text ++ ":" ++ e.text ++ ")" = (Tr.cho a b c e).text := by
  rw [← join_text]
  apply str_ext
  simp only [ls_app]
  have h0 : ls Str.empty = [] := rfl
  rw [h0, List.nil_append]
section
variable {P : Program} {w : World} {K : PySem.W.Frag} {mg : Str → Option Value} {base : Heap} {a : Ad}
theorem ok_ltext (T : Tx P K mg a) : ∀ n : Nat, FnOk P w K mg base CX0 (n + 1) a.f__law_tree_text a.d__law_tree_text ["tree"] (spText K n)
  | 0 => fnNo fun vs H Q E ⟨v, t, _, _, _, h, _⟩ => by
    have := deep_pos t
    omega
  | n + 1 => by
    have IH : FnOk P w K mg base CX0 (n + 1) a.f__law_tree_text a.d__law_tree_text ["tree"] (spText K n) := ok_ltext T n
    refine T._law_tree_text.fn.ok sc__law_tree_text (fun vs H Q E h => ?_) (fun cdv A outer s H vs Q E hr h => ?_)
    · obtain ⟨v, t, rfl, _⟩ := h
      rfl
    · obtain ⟨v, t, rfl, hv, ok, hd, hn, q⟩ := h
      have nd := sc__law_tree_text.nd
      refine ⟨_, (pss_cons (ps_if (pt_val (cb_isi T.bi (pa_cons (pv 0) (pa_cons (gl_ty rfl T.bi.tuple PyProof.Rows.boot_tuple) pa_nil))))
        (pss_cons (ps_asg (pe_lc (own := [("part", 5)]) (by rfl) nd (pi_tup (pv 0)) (blkOk_by (own := [("part", 5)]) (N := ["tree", "near", "far", "yes", "no", "part"]) (sc := defScope s__law_tree_text) (by decide +kernel)) (fun _ _ _ _ _ => (pg_name (i := 5) nd rfl (Or.inl rfl))) (fun _ _ _ _ _ => pts_nil) (fun _ _ _ _ _ => (pe_cf T._law_tree_text IH hr (pa_cons (pv 5) pa_nil)))) (pg_unl rfl (pgs_cons (pg_name (i := 1) nd rfl (Or.inl rfl)) (pgs_cons (pg_name (i := 2) nd rfl (Or.inl rfl)) (pgs_cons (pg_name (i := 3) nd rfl (Or.inl rfl)) (pgs_cons (pg_name (i := 4) nd rfl (Or.inl rfl)) pgs_nil))))))
          (pss_one (ps_ret (pe_op op_addA (pe_op op_addA (pe_op op_addA (pe_op op_addA (pe_op op_addA (pe_op op_addA (pe_op op_addA (pe_op op_addA pe_str (pv 1)) pe_str) (pv 2)) pe_str) (pv 3)) pe_str) (pv 4)) pe_str)))) pss_nil)
        (pss_one (ps_ret (cb_str T.bi (pa_cons (pv 0) pa_nil))))), ?_⟩
      refine ⟨_, rfl, isiTr hv ?_⟩
      refine ⟨_, rfl, ?_⟩
      cases t with
      | con m =>
        obtain rfl := tr_con hv
        exact ⟨_, rfl, strI (int_small ok) (q _ fun _ _ e => e)⟩
      | var x =>
        obtain rfl := tr_var hv
        exact ⟨_, rfl, strS (q _ fun _ _ e => e)⟩
      | cho a1 b1 c1 e1 =>
        obtain ⟨p, v1, v2, v3, v4, rfl, sq, h1, h2, h3, h4⟩ := tr_cho hv
        refine ⟨_, rfl, p, rfl, ⟨_, sq⟩, fun D hD => ?_⟩
        refine lc_it (walk_tup (xs := [v1, v2, v3, v4])) (fun i H' => H' D = some (.lst (([a1, b1, c1, e1].take i).map fun t => V.str t.text)) ∧ Same H H') ⟨upd_same, sNew hD⟩ (fun _ _ _ ⟨_, sm⟩ => SqT.same sm sq) ?_ ?_
        · rintro i x H1 H1' hi ⟨hA, sm⟩ ⟨rfl, hx⟩
          obtain ⟨t, ht, hdt⟩ := get4 (K := K) (H := H) hx h1 h2 h3 h4
          refine ⟨rfl, _, rfl, x, t, rfl, tr_same sm hdt, kid_ok ht ok, by have := kid_deep ht; omega, by omega, fun H2 s2 => ?_⟩
          have hi' : i < 4 := hi
          refine ⟨_, s2 _ _ hA, ?_, ?_, sUpd hD (sm.trans s2)⟩
          · rw [List.length_map, List.length_take]
            exact Nat.lt_of_le_of_lt (Nat.min_le_left _ _) (Nat.lt_trans hi' (by decide))
          · rw [upd_same, List.take_succ, ht, List.map_append]
            rfl
        · rintro H1 ⟨hA, sm⟩
          refine ⟨D, _, rfl, .inl (.inl hA), rfl, _, _, rfl, _, _, rfl, _, _, rfl, _, _, rfl, rfl, ?_⟩
          obtain ⟨oa, ob, oc, oe⟩ : a1.Ok ∧ b1.Ok ∧ c1.Ok ∧ e1.Ok := ok
          have hdd : (Tr.cho a1 b1 c1 e1).deep = 1 + max (max a1.deep b1.deep) (max c1.deep e1.deep) := rfl
          have t1 := text_small oa (by omega)
          have t2 := text_small ob (by omega)
          have t3 := text_small oc (by omega)
          have t4 := text_small oe (by omega)
          have k1 : ("(" : Str).length = 1 := by decide +kernel
          have k2 : ("=" : Str).length = 1 := by decide +kernel
          have k3 : ("?" : Str).length = 1 := by decide +kernel
          have k4 : (":" : Str).length = 1 := by decide +kernel
          have k5 : (")" : Str).length = 1 := by decide +kernel
          have sl := sl10
          refine ⟨_, rfl, addS (by first | omega | (simp only [len_app]; omega)) (addS (by first | omega | (simp only [len_app]; omega)) ⟨_, rfl, addS (by first | omega | (simp only [len_app]; omega)) (addS (by first | omega | (simp only [len_app]; omega)) ⟨_, rfl, addS (by first | omega | (simp only [len_app]; omega)) (addS (by first | omega | (simp only [len_app]; omega)) ⟨_, rfl, addS (by first | omega | (simp only [len_app]; omega)) (addS (by first | omega | (simp only [len_app]; omega)) ?_)⟩)⟩)⟩)⟩
          rw [join_text2]
          exact q _ sm
def Shows (K : PySem.W.Frag) (H : Hp) (x : V) : Prop := (∃ d, Dp K H x d ∧ d.showable = true ∧ d.depth ≤ 60 ∧ d.shown.length ≤ sizeLine) ∨ ∃ e, x = .ref e ∧ H e = some (.dK [])
theorem Shows.same {H H' : Hp} {x : V} (e : Same H H') (h : Shows K H x) : Shows K H' x := by
  rcases h with ⟨d, h1, h2⟩ | ⟨p, h1, h2⟩
  · exact .inl ⟨d, dp_same e h1, h2⟩
  · exact .inr ⟨p, h1, e _ _ h2⟩
theorem Shows.str {H : Hp} {x : V} (h : Shows K H x) : ∃ s : Str, ∀ H', Same H H' → ∀ Q : VK, Q (.str s) H' → rRepr K [x] H' Q := by
  rcases h with ⟨d, h1, h2, h3, h4⟩ | ⟨p, rfl, h2⟩
  · exact ⟨d.shown, fun H' e Q q => reprD (dp_same e h1) h2 h3 h4 q⟩
  · exact ⟨_, fun H' e Q q => repr0 (e _ _ h2) q⟩
end
end Z
set_option maxRecDepth 100000
set_option maxHeartbeats 4000000
set_option pp.maxSteps 500
namespace Z
open PySem PySem.Spec PyProof.Rows L2
section
variable {P : Program} {w : World} {K : PySem.W.Frag} {mg : Str → Option Value} {base : Heap} {a : Ad}
def spLeaves (K : PySem.W.Frag) (n : Nat) : Sp := fun vs H Q _ => ∃ (v : V) (t : Tr), vs = [v] ∧ Dp K H v t.d ∧ t.deep ≤ n ∧ t.lv.length ≤ 1000 ∧ ∀ p H', Same H H' → H p = none → H' p = some (.lst t.lv) → Q (.ref p) H'
theorem kid_lv {a b c e t : Tr} {i : Nat} (h : [a, b, c, e][i]? = some t) : t.lv.length ≤ (Tr.cho a b c e).lv.length := by
  have : (Tr.cho a b c e).lv = a.lv ++ b.lv ++ c.lv ++ e.lv := rfl
  rw [this, List.length_append, List.length_append, List.length_append]
  rcases mem4 h with rfl | rfl | rfl | rfl <;> omega
theorem take_lv {a b c e t : Tr} {i : Nat} (h : [a, b, c, e][i]? = some t) : (([a, b, c, e].take i).map Tr.lv).flatten ++ t.lv = (([a, b, c, e].take (i + 1)).map Tr.lv).flatten := by
  rw [List.take_succ, h]
  simp
theorem all_lv {a b c e : Tr} : (([a, b, c, e].take 4).map Tr.lv).flatten = (Tr.cho a b c e).lv := by
  show a.lv ++ (b.lv ++ (c.lv ++ (e.lv ++ []))) = a.lv ++ b.lv ++ c.lv ++ e.lv
  simp
theorem part_lv {a b c e : Tr} (i : Nat) : (([a, b, c, e].take i).map Tr.lv).flatten.length ≤ (Tr.cho a b c e).lv.length := by
  rw [← all_lv]
  have : [a, b, c, e].take 4 = [a, b, c, e] := rfl
  rw [this]
  conv => rhs; rw [← List.take_append_drop i [a, b, c, e]]
  rw [List.map_append, List.flatten_append, List.length_append]
  omega
theorem ok_leaves (T : Tx P K mg a) : ∀ n : Nat, FnOk P w K mg base CX0 (n + 1) a.f_leaves_of a.d_leaves_of ["plan"] (spLeaves K n)
  | 0 => fnNo fun vs H Q E ⟨v, t, _, _, h, _⟩ => by
    have := deep_pos t
    omega
  | n + 1 => by
    have IH : FnOk P w K mg base CX0 (n + 1) a.f_leaves_of a.d_leaves_of ["plan"] (spLeaves K n) := ok_leaves T n
    refine T.leaves_of.fn.ok sc_leaves_of (fun vs H Q E h => ?_) (fun cdv A outer s H vs Q E hr h => ?_)
    · obtain ⟨v, t, rfl, _⟩ := h
      rfl
    · obtain ⟨v, t, rfl, hv, hd, hl, q⟩ := h
      have nd := sc_leaves_of.nd
      have sl := PySem.sizeLine_eq
      refine ⟨_, (pss_cons (ps_if (pt_not (pt_val (cb_isi T.bi (pa_cons (pv 0) (pa_cons (gl_ty rfl T.bi.tuple PyProof.Rows.boot_tuple) pa_nil))))) (pss_one (ps_ret (pe_lst (pa_cons (pv 0) pa_nil)))) pss_nil)
        (pss_cons (ps_set (i := 1) nd rfl (Or.inl rfl) (pe_lst pa_nil))
        (pss_cons (ps_for PassesOwn.never rfl (pi_tup (pv 0)) (pg_name (i := 2) nd rfl (Or.inl rfl)) (pss_one (ps_set (i := 1) nd rfl (Or.inl rfl) (pe_op op_addA (pv 1) (pe_cf T.leaves_of IH hr (pa_cons (pv 2) pa_nil))))))
        (pss_one (ps_ret (pv 1)))))), ?_⟩
      refine ⟨_, rfl, isiTr hv ?_⟩
      refine ⟨_, rfl, ?_⟩
      cases t with
      | con m =>
        obtain rfl := tr_con hv
        exact ⟨_, rfl, by show 1 ≤ sizeLine; decide, fun p hp => q p _ (sNew hp) hp upd_same⟩
      | var x =>
        obtain rfl := tr_var hv
        exact ⟨_, rfl, by show 1 ≤ sizeLine; decide, fun p hp => q p _ (sNew hp) hp upd_same⟩
      | cho a1 b1 c1 e1 =>
        obtain ⟨p, v1, v2, v3, v4, rfl, sq, h1, h2, h3, h4⟩ := tr_cho hv
        refine ⟨Nat.zero_le _, fun D hD => ?_⟩
        have sD := sNew (o := .lst []) hD
        refine ⟨_, rfl, p, rfl, ⟨_, SqT.same sD sq⟩, ?_⟩
        refine for_it (walk_tup (xs := [v1, v2, v3, v4])) (fun i σ H' => ∃ (r : Addr) (o2 : Option V), σ = [some (.ref p), some (.ref r), o2] ∧ H r = none ∧ H' r = some (.lst (([a1, b1, c1, e1].take i).map Tr.lv).flatten) ∧ Same H H')
          ⟨D, none, rfl, hD, upd_same, sD⟩ (fun _ _ _ _ ⟨_, _, _, _, _, sm⟩ => SqT.same sm sq) ?_ ?_
        · rintro i x σ H1 H1' hi ⟨r, o2, rfl, nr, hr', sm⟩ ⟨rfl, hx⟩
          obtain ⟨t, ht, hdt⟩ := get4 (K := K) (H := H) hx h1 h2 h3 h4
          have hk := kid_deep ht
          have hkl := kid_lv ht
          refine ⟨_, rfl, _, rfl, x, t, rfl, tr_same sm hdt, by omega, by omega, fun p2 H2 s2 n2 g2 => ?_⟩
          have fits : (([a1, b1, c1, e1].take i).map Tr.lv).flatten.length + t.lv.length ≤ sizeLine := by
            have := part_lv (a := a1) (b := b1) (c := c1) (e := e1) i
            omega
          refine addL (s2 _ _ hr') g2 fits fun p3 H3 n3 s3 g3 => ?_
          have np3 : H p3 = none := by
            cases e : H p3 with
            | none => rfl
            | some o =>
              have := (sm.trans s2) _ _ e
              rw [n3] at this
              cases this
          exact ⟨p3, _, rfl, np3, by rw [g3, take_lv ht], (sm.trans s2).trans s3⟩
        · rintro σ H1 ⟨r, o2, rfl, nr, hr', sm⟩
          refine ⟨_, rfl, q r H1 sm nr ?_⟩
          rw [hr']
          exact congrArg (fun z => some (HO.lst z)) all_lv
end
end Z
set_option maxRecDepth 100000
set_option maxHeartbeats 4000000
namespace Z
open PySem PySem.Spec PyProof.Rows L2
theorem ascS_mors (zs : List Str) : ascS (mors [] zs) = ascS zs := Ord.asc_eq fun y => by rw [mem_mors]; simp
theorem ascI_mors (zs : List Int) : ascI (mors [] zs) = ascI zs := Ord.asc_eq fun y => by rw [mem_mors]; simp
theorem mors_snoc {κ : Type} [DecidableEq κ] {zs : List κ} {i : Nat} {z : κ} (h : zs[i]? = some z) : mor (mors [] (zs.take i)) z = mors [] (zs.take (i + 1)) := by
  unfold mors
  rw [List.take_succ, h]
  show _ = List.foldl mor [] (zs.take i ++ [z])
  rw [List.foldl_append]
  rfl
theorem mors_few {κ : Type} [DecidableEq κ] {zs : List κ} {i : Nat} : (mors [] (zs.take i)).length ≤ zs.length := by
  have h1 := len_mors (l := []) (ks := zs.take i)
  have h2 : (zs.take i).length ≤ zs.length := by rw [List.length_take]; exact Nat.min_le_right ..
  simp only [List.length_nil] at h1
  omega
section
variable {P : Program} {w : World} {K : PySem.W.Frag} {mg : Str → Option Value} {base : Heap} {a : Ad}
def spAscW (K : PySem.W.Frag) : Sp := fun vs H Q _ => ∃ (p : Addr) (zs : List Str), vs = [.ref p] ∧ SqL K H p (zs.map V.str) ∧ zs.length < 64 ∧ ∀ q H', Same H H' → H q = none → H' q = some (.lst ((ascS zs).map V.str)) → Q (.ref q) H'
theorem ok_ascW (T : Tx P K mg a) : FnOk P w K mg base CX0 1 a.f_ascending_words a.d_ascending_words ["words"] (spAscW K) := by
  refine T.ascending_words.fn.ok sc_ascending_words (fun vs H Q E h => ?_) (fun cdv A outer s H vs Q E hr h => ?_)
  · obtain ⟨p, zs, rfl, _⟩ := h
    rfl
  · obtain ⟨p, zs, rfl, hs, few, q⟩ := h
    have nd := sc_ascending_words.nd
    refine ⟨_, (pss_one (ps_ret (pe_callB (call_sortHS (P := P) (w := w) rfl) rfl T.bi.sorted PyProof.Rows.boot_sorted (pa_cons (pe_scH (strSK P w) (own := [("word", 1)]) rfl nd (pi_list (pv 0)) (blkOk_by (own := [("word", 1)]) (N := ["words", "word"]) (sc := defScope s_ascending_words) (by decide +kernel)) (fun _ _ _ _ _ => (pg_name (i := 1) nd rfl (Or.inl rfl))) (fun _ _ _ _ _ => pts_nil) (fun _ _ _ _ _ => (cb_str T.bi (pa_cons (pv 1) pa_nil)))) pa_nil)))), ?_⟩
    refine ⟨_, rfl, p, rfl, ⟨_, hs⟩, fun D nD => ?_⟩
    refine sch_it (walk_list (xs := zs.map V.str)) (fun i H' => Same H H' ∧ H' D = some (SetH (strSK P w) D (mors [] (zs.take i)))) ⟨sNew nD, upd_same⟩ (fun i H' _ ⟨sm, _⟩ => SqL.same sm hs) ?_ ?_
    · rintro i x H1 H1' hi ⟨sm, hD⟩ ⟨rfl, hx⟩
      rw [List.getElem?_map] at hx
      obtain ⟨z, hz, rfl⟩ : ∃ z, zs[i]? = some z ∧ x = V.str z := by
        cases e : zs[i]? with
        | none => rw [e] at hx; cases hx
        | some z => rw [e] at hx; cases hx; exact ⟨z, rfl, rfl⟩
      refine ⟨rfl, _, rfl, strS ?_⟩
      have h1 := mors_few (zs := zs) (i := i)
      refine ⟨z, _, rfl, hD, by unfold scanBound; omega, sUpd nD sm, ?_⟩
      rw [upd_same, mors_snoc hz]
    · rintro H1 ⟨sm, hD⟩
      have e : (zs.map V.str).length = zs.length := List.length_map ..
      rw [e, List.take_length] at hD
      refine ⟨D, _, rfl, hD, by have := mors_few (zs := zs) (i := zs.length); rw [List.take_length] at this; omega, fun r nr => ?_⟩
      refine q r _ (sm.trans (sNew nr)) ?_ (by rw [upd_same, ascS_mors])
      cases e : H r with
      | none => rfl
      | some o =>
        have := sm _ _ e
        rw [nr] at this
        cases this
def spAscN (K : PySem.W.Frag) : Sp := fun vs H Q _ => ∃ (p : Addr) (zs : List Int), vs = [.ref p] ∧ SqL K H p (zs.map V.int) ∧ zs.length < 64 ∧ ∀ q H', Same H H' → H q = none → H' q = some (.lst ((ascI zs).map V.int)) → Q (.ref q) H'
theorem ok_ascN (T : Tx P K mg a) : FnOk P w K mg base CX0 1 a.f_ascending_numbers a.d_ascending_numbers ["numbers"] (spAscN K) := by
  refine T.ascending_numbers.fn.ok sc_ascending_numbers (fun vs H Q E h => ?_) (fun cdv A outer s H vs Q E hr h => ?_)
  · obtain ⟨p, zs, rfl, _⟩ := h
    rfl
  · obtain ⟨p, zs, rfl, hs, few, q⟩ := h
    have nd := sc_ascending_numbers.nd
    refine ⟨_, (pss_one (ps_ret (pe_callB (call_sortHI (P := P) (w := w) rfl) rfl T.bi.sorted PyProof.Rows.boot_sorted (pa_cons (pe_scH (intSK P w) (own := [("number", 1)]) rfl nd (pi_list (pv 0)) (blkOk_by (own := [("number", 1)]) (N := ["numbers", "number"]) (sc := defScope s_ascending_numbers) (by decide +kernel)) (fun _ _ _ _ _ => (pg_name (i := 1) nd rfl (Or.inl rfl))) (fun _ _ _ _ _ => pts_nil) (fun _ _ _ _ _ => (cb_int T.bi (pa_cons (pv 1) pa_nil)))) pa_nil)))), ?_⟩
    refine ⟨_, rfl, p, rfl, ⟨_, hs⟩, fun D nD => ?_⟩
    refine sch_it (walk_list (xs := zs.map V.int)) (fun i H' => Same H H' ∧ H' D = some (SetH (intSK P w) D (mors [] (zs.take i)))) ⟨sNew nD, upd_same⟩ (fun i H' _ ⟨sm, _⟩ => SqL.same sm hs) ?_ ?_
    · rintro i x H1 H1' hi ⟨sm, hD⟩ ⟨rfl, hx⟩
      rw [List.getElem?_map] at hx
      obtain ⟨z, hz, rfl⟩ : ∃ z, zs[i]? = some z ∧ x = V.int z := by
        cases e : zs[i]? with
        | none => rw [e] at hx; cases hx
        | some z => rw [e] at hx; cases hx; exact ⟨z, rfl, rfl⟩
      refine ⟨rfl, _, rfl, intI ?_⟩
      have h1 := mors_few (zs := zs) (i := i)
      refine ⟨z, _, rfl, hD, by unfold scanBound; omega, sUpd nD sm, ?_⟩
      rw [upd_same, mors_snoc hz]
    · rintro H1 ⟨sm, hD⟩
      have e : (zs.map V.int).length = zs.length := List.length_map ..
      rw [e, List.take_length] at hD
      refine ⟨D, _, rfl, hD, by have := mors_few (zs := zs) (i := zs.length); rw [List.take_length] at this; omega, fun r nr => ?_⟩
      refine q r _ (sm.trans (sNew nr)) ?_ (by rw [upd_same, ascI_mors])
      cases e : H r with
      | none => rfl
      | some o =>
        have := sm _ _ e
        rw [nr] at this
        cases this
end
end Z
set_option maxRecDepth 100000
set_option maxHeartbeats 4000000
namespace Z
open PySem PySem.Spec PyProof.Rows L2
theorem fm_snoc {α β : Type} {f : α → Option β} {xs : List α} {i : Nat} {x : α} (h : xs[i]? = some x) : (xs.take (i + 1)).filterMap f = (xs.take i).filterMap f ++ (match f x with | some y => [y] | none => []) := by
  rw [List.take_succ, h, List.filterMap_append]
  congr 1
  show List.filterMap f [x] = _
  cases hf : f x <;> simp [List.filterMap, hf]
theorem leaf_cases {v : V} (h : Leaf v) : (∃ z, v = .str z ∧ Word z) ∨ ∃ n, v = .int n ∧ 0 ≤ n ∧ n ≤ 9 := h
theorem lv_at {t : Tr} {i : Nat} {x : V} (ok : t.Ok) (h : t.lv[i]? = some x) : Leaf x := lv_leaf ok x (List.mem_of_getElem? h)
theorem fm_len {α β : Type} {f : α → Option β} {xs : List α} {i : Nat} : ((xs.take i).filterMap f).length ≤ xs.length :=
  Nat.le_trans (List.length_filterMap_le ..) (by rw [List.length_take]; exact Nat.min_le_right ..)
section
variable {P : Program} {w : World} {K : PySem.W.Frag} {mg : Str → Option Value} {base : Heap} {a : Ad}
def spTVars (K : PySem.W.Frag) (C : Addr) : Sp := fun vs H Q _ => ∃ (p : Addr) (t : Tr), vs = [.ref p] ∧ TermAt K C H p t ∧ t.deep ≤ 3 ∧ ∀ q H', Same H H' → H q = none → H' q = some (.lst ((ascS t.ws).map V.str)) → Q (.ref q) H'
theorem ok_tvars (T : Tx P K mg a) : FnOk P w K mg base CX0 5 a.f_Term_variables a.d_Term_variables ["self"] (spTVars K a.C_Term) := by
  have F1 : FnOk P w K mg base CX0 4 a.f_leaves_of a.d_leaves_of ["plan"] (spLeaves K 3) := ok_leaves T 3
  have F2 : FnOk P w K mg base CX0 1 a.f_ascending_words a.d_ascending_words ["words"] (spAscW K) := ok_ascW T
  refine T.Term_variables.ok sc_Term_variables (fun vs H Q E h => ?_) (fun cdv A outer s H vs Q E hr h => ?_)
  · obtain ⟨p, t, rfl, _⟩ := h
    rfl
  · obtain ⟨p, t, rfl, ⟨dx, u, h1, h2, h3⟩, hd, k⟩ := h
    have nd := sc_Term_variables.nd
    have l16 := lv_16 hd
    refine ⟨_, (pss_one (ps_ret (pe_cf T.ascending_words F2 (hr.mono (by decide)) (pa_cons (pe_lc (own := [("leaf", 1)]) (by rfl) nd (pi_list (pe_cf T.leaves_of F1 hr (pa_cons (pe_fld (pv 0) rfl) pa_nil))) (blkOk_by (own := [("leaf", 1)]) (N := ["self", "leaf"]) (sc := defScope s_Term_variables) (by decide +kernel)) (fun _ _ _ _ _ => (pg_name (i := 1) nd rfl (Or.inl rfl))) (fun _ _ _ _ _ => pts_one (pt_val (cb_isiA (K := K) T.bi (pa_cons (pv 1) (pa_cons (gl_ty rfl T.bi.str PyProof.Rows.boot_str) pa_nil))))) (fun _ _ _ _ _ => (pv 1))) pa_nil)))), ?_⟩
    refine ⟨_, rfl, p, _, dx, _, u, rfl, h1, T.c_Term, T.no_Term_tree, rfl, u, t, rfl, h2, hd, by omega, fun L H1 s1 nL hL => ?_⟩
    refine ⟨L, rfl, ⟨_, .inl (.inl hL)⟩, fun D nD => ?_⟩
    refine lc_it (walk_list (xs := t.lv)) (fun i H' => H' D = some (.lst (((t.lv.take i).filterMap strV).map V.str)) ∧ Same H1 H') ⟨upd_same, sNew nD⟩ (fun _ _ _ ⟨_, sm⟩ => .inl (.inl (sm _ _ hL))) ?_ ?_
    · rintro i x H2 H2' hi ⟨hA, sm⟩ ⟨rfl, hx⟩
      have few := fm_len (f := strV) (xs := t.lv) (i := i)
      rcases lv_at h3.1 hx with ⟨z, rfl, hz⟩ | ⟨m, rfl, hm⟩
      · refine ⟨rfl, _, rfl, ⟨isiTy (.base (.str z)) k_ss ?_⟩⟩
        refine ⟨_, rfl, ?_⟩
        refine ⟨_, rfl, _, hA, by rw [List.length_map]; have := sl1k; omega, ?_, sUpd nD sm⟩
        rw [upd_same, fm_snoc hx, List.map_append]
        rfl
      · refine ⟨rfl, _, rfl, ⟨isiTy (.base (.int m)) (by decide +kernel : kitB "int" "str" = some false) ?_⟩⟩
        refine ⟨_, rfl, ?_⟩
        refine ⟨?_, sm⟩
        rw [hA, fm_snoc hx]
        show some (HO.lst (List.map V.str (List.filterMap strV (List.take i t.lv)))) = some (HO.lst (List.map V.str (List.filterMap strV (List.take i t.lv) ++ [])))
        rw [List.append_nil]
    · rintro H2 ⟨hA, sm⟩
      rw [List.take_length, lv_ws] at hA
      have few := ws_len t
      refine ⟨D, t.ws, rfl, .inl (.inl hA), by omega, fun q H3 s3 nq hq => ?_⟩
      exact k q H3 ((s1.trans sm).trans s3) (back_none (s1.trans sm) nq) hq
def spTCons (K : PySem.W.Frag) (C : Addr) : Sp := fun vs H Q _ => ∃ (p : Addr) (t : Tr), vs = [.ref p] ∧ TermAt K C H p t ∧ t.deep ≤ 3 ∧ ∀ q H', Same H H' → H q = none → H' q = some (.lst ((ascI t.ns).map V.int)) → Q (.ref q) H'
theorem ok_tcons (T : Tx P K mg a) : FnOk P w K mg base CX0 5 a.f_Term_constants a.d_Term_constants ["self"] (spTCons K a.C_Term) := by
  have F1 : FnOk P w K mg base CX0 4 a.f_leaves_of a.d_leaves_of ["plan"] (spLeaves K 3) := ok_leaves T 3
  have F2 : FnOk P w K mg base CX0 1 a.f_ascending_numbers a.d_ascending_numbers ["numbers"] (spAscN K) := ok_ascN T
  have F3 : FnOk P w K mg base CX0 1 a.f_is_whole a.d_is_whole ["value"] (spWhole K) := ok_whole T
  refine T.Term_constants.ok sc_Term_constants (fun vs H Q E h => ?_) (fun cdv A outer s H vs Q E hr h => ?_)
  · obtain ⟨p, t, rfl, _⟩ := h
    rfl
  · obtain ⟨p, t, rfl, ⟨dx, u, h1, h2, h3⟩, hd, k⟩ := h
    have nd := sc_Term_constants.nd
    have l16 := lv_16 hd
    have hr1 : Room 1 _ := hr.mono (by decide)
    refine ⟨_, (pss_one (ps_ret (pe_cf T.ascending_numbers F2 (hr.mono (by decide)) (pa_cons (pe_lc (own := [("leaf", 1)]) (by rfl) nd (pi_list (pe_cf T.leaves_of F1 hr (pa_cons (pe_fld (pv 0) rfl) pa_nil))) (blkOk_by (own := [("leaf", 1)]) (N := ["self", "leaf"]) (sc := defScope s_Term_constants) (by decide +kernel)) (fun _ _ _ _ _ => (pg_name (i := 1) nd rfl (Or.inl rfl))) (fun _ _ _ _ _ => pts_one (pt_val (pe_cf T.is_whole F3 hr1 (pa_cons (pv 1) pa_nil)))) (fun _ _ _ _ _ => (pv 1))) pa_nil)))), ?_⟩
    refine ⟨_, rfl, p, _, dx, _, u, rfl, h1, T.c_Term, T.no_Term_tree, rfl, u, t, rfl, h2, hd, by omega, fun L H1 s1 nL hL => ?_⟩
    refine ⟨L, rfl, ⟨_, .inl (.inl hL)⟩, fun D nD => ?_⟩
    refine lc_it (walk_list (xs := t.lv)) (fun i H' => H' D = some (.lst (((t.lv.take i).filterMap intV).map V.int)) ∧ Same H1 H') ⟨upd_same, sNew nD⟩ (fun _ _ _ ⟨_, sm⟩ => .inl (.inl (sm _ _ hL))) ?_ ?_
    · rintro i x H2 H2' hi ⟨hA, sm⟩ ⟨rfl, hx⟩
      have few := fm_len (f := intV) (xs := t.lv) (i := i)
      rcases lv_at h3.1 hx with ⟨z, rfl, hz⟩ | ⟨m, rfl, hm⟩
      · refine ⟨rfl, _, rfl, .str z, "str", false, false, rfl, .base (.str z), k_si, (by decide +kernel : kitB "str" "bool" = some false), ?_⟩
        refine ⟨_, rfl, ?_⟩
        refine ⟨?_, sm⟩
        rw [hA, fm_snoc hx]
        show some (HO.lst (List.map V.int (List.filterMap intV (List.take i t.lv)))) = some (HO.lst (List.map V.int (List.filterMap intV (List.take i t.lv) ++ [])))
        rw [List.append_nil]
      · refine ⟨rfl, _, rfl, .int m, "int", true, false, rfl, .base (.int m), k_ii, k_ib, ?_⟩
        refine ⟨_, rfl, ?_⟩
        refine ⟨_, rfl, _, hA, by rw [List.length_map]; have := sl1k; omega, ?_, sUpd nD sm⟩
        rw [upd_same, fm_snoc hx, List.map_append]
        rfl
    · rintro H2 ⟨hA, sm⟩
      rw [List.take_length, lv_ns] at hA
      have few := ns_len t
      refine ⟨D, t.ns, rfl, .inl (.inl hA), by omega, fun q H3 s3 nq hq => ?_⟩
      exact k q H3 ((s1.trans sm).trans s3) (back_none (s1.trans sm) nq) hq
end
end Z
set_option maxRecDepth 100000
set_option maxHeartbeats 4000000
set_option pp.maxSteps 500
namespace Z
open PySem PySem.Spec PyProof.Rows L2
theorem text_low : ∀ t : Tr, t.Ok → ∀ c ∈ ls t.text, c < 200
  | .con n, ok, c, hc => by
    rw [con_text ok] at hc
    obtain ⟨h1, h2⟩ : 0 ≤ n ∧ n ≤ 9 := ok
    have := List.mem_singleton.mp hc
    omega
  | .var w, ok, c, hc => by
    obtain ⟨h1, h2⟩ : isLet c := (show Word w from ok).2.2 c hc
    omega
  | .cho a b d e, ok, c, hc => by
    obtain ⟨oa, ob, od, oe⟩ : a.Ok ∧ b.Ok ∧ d.Ok ∧ e.Ok := ok
    rw [cho_text] at hc
    simp only [List.mem_cons, List.mem_append, List.not_mem_nil, or_false] at hc
    rcases hc with rfl | hc | rfl | hc | rfl | hc | rfl | hc | rfl
    · decide
    · exact text_low a oa c hc
    · decide
    · exact text_low b ob c hc
    · decide
    · exact text_low d od c hc
    · decide
    · exact text_low e oe c hc
    · decide
theorem strOk_of {z : Str} (h : ∀ c ∈ ls z, c < 200) : PyData.strOk z = true := by
  unfold PyData.strOk
  rw [← Array.all_toList, List.all_eq_true]
  intro c hc
  have := h c hc
  exact decide_eq_true (by omega)
mutual
theorem eqv_self : ∀ d : PyData, d.canLay0 = true → PyData.eqv d d = true
  | .none, _ => by simp [PyData.eqv]
  | .bool b, _ => by simp [PyData.eqv]
  | .int b, _ => by simp [PyData.eqv]
  | .str b, _ => by simp [PyData.eqv]
  | .list xs, h => by
    simp only [PyData.eqv]
    simp only [PyData.canLay0] at h
    exact eqv_selfAll xs h
  | .tuple xs, h => by
    simp only [PyData.eqv]
    simp only [PyData.canLay0] at h
    exact eqv_selfAll xs h
  | .dict xs, h => by simp [PyData.canLay0] at h
theorem eqv_selfAll : ∀ ds : List PyData, PyData.canLayAll0 ds = true → PyData.eqvAll ds ds = true
  | [], _ => by simp [PyData.eqvAll]
  | x :: xs, h => by
    simp only [PyData.canLayAll0, Bool.and_eq_true] at h
    simp only [PyData.eqvAll, Bool.and_eq_true]
    exact ⟨eqv_self x h.1, eqv_selfAll xs h.2⟩
end
theorem neDself {K : PySem.W.Frag} {x y : V} {d : PyData} {H : Hp} {Q : VK} (h1 : Dp K H x d) (h2 : Dp K H y d) (sh : SeqAt.shaped d = true) (q : Q (.bl false) H) : rNeX K x y H Q := by
  have : PyData.canLay0 d = true := by
    unfold SeqAt.shaped at sh
    rw [Bool.and_eq_true] at sh
    exact sh.1
  refine ⟨.inr (.inr ⟨d, d, h1, h2, sh, sh, ?_⟩)⟩
  rw [eqv_self d this]
  exact q
theorem dpStrs {K : PySem.W.Frag} {H : Hp} : ∀ zs : List Str, DpAll K H (zs.map V.str) (zs.map PyData.str)
  | [] => .nil
  | z :: zs => .cons (.str z) (dpStrs zs)
theorem dpInts {K : PySem.W.Frag} {H : Hp} : ∀ zs : List Int, DpAll K H (zs.map V.int) (zs.map PyData.int)
  | [] => .nil
  | z :: zs => .cons (.int z) (dpInts zs)
theorem laysS : ∀ {zs : List Str}, (∀ z ∈ zs, PyData.strOk z = true) → PyData.canLayAll0 (zs.map PyData.str) = true
  | [], _ => by simp [PyData.canLayAll0]
  | z :: zs, h => by
    simp only [List.map_cons, PyData.canLayAll0, PyData.canLay0, Bool.and_eq_true]
    exact ⟨h z List.mem_cons_self, laysS fun y hy => h y (List.mem_cons_of_mem _ hy)⟩
theorem laysI : ∀ {zs : List Int}, PyData.canLayAll0 (zs.map PyData.int) = true
  | [] => by simp [PyData.canLayAll0]
  | z :: zs => by
    simp only [List.map_cons, PyData.canLayAll0, PyData.canLay0, Bool.true_and]
    exact laysI
theorem depS : ∀ {zs : List Str}, PyData.depthAll (zs.map PyData.str) ≤ 1
  | [] => by simp [PyData.depthAll]
  | z :: zs => by
    simp only [List.map_cons, PyData.depthAll, PyData.depth]
    have := depS (zs := zs)
    omega
theorem depI : ∀ {zs : List Int}, PyData.depthAll (zs.map PyData.int) ≤ 1
  | [] => by simp [PyData.depthAll]
  | z :: zs => by
    simp only [List.map_cons, PyData.depthAll, PyData.depth]
    have := depI (zs := zs)
    omega
section
variable {P : Program} {w : World} {K : PySem.W.Frag} {mg : Str → Option Value} {base : Heap} {a : Ad}
theorem ok_lleaves (T : Tx P K mg a) : ∀ n : Nat, FnOk P w K mg base CX0 (n + 1) a.f__law_tree_leaves a.d__law_tree_leaves ["tree"] (spLeaves K n)
  | 0 => fnNo fun vs H Q E ⟨v, t, _, _, h, _⟩ => by
    have := deep_pos t
    omega
  | n + 1 => by
    have IH : FnOk P w K mg base CX0 (n + 1) a.f__law_tree_leaves a.d__law_tree_leaves ["tree"] (spLeaves K n) := ok_lleaves T n
    refine T._law_tree_leaves.fn.ok sc__law_tree_leaves (fun vs H Q E h => ?_) (fun cdv A outer s H vs Q E hr h => ?_)
    · obtain ⟨v, t, rfl, _⟩ := h
      rfl
    · obtain ⟨v, t, rfl, hv, hd, hl, q⟩ := h
      have nd := sc__law_tree_leaves.nd
      have sl := PySem.sizeLine_eq
      refine ⟨_, (pss_cons (ps_if (pt_not (pt_val (cb_isi T.bi (pa_cons (pv 0) (pa_cons (gl_ty rfl T.bi.tuple PyProof.Rows.boot_tuple) pa_nil))))) (pss_one (ps_ret (pe_lst (pa_cons (pv 0) pa_nil)))) pss_nil)
        (pss_cons (ps_set (i := 1) nd rfl (Or.inl rfl) (pe_lst pa_nil))
        (pss_cons (ps_for PassesOwn.never rfl (pi_tup (pv 0)) (pg_name (i := 2) nd rfl (Or.inl rfl)) (pss_one (ps_set (i := 1) nd rfl (Or.inl rfl) (pe_op op_addA (pv 1) (pe_cf T._law_tree_leaves IH hr (pa_cons (pv 2) pa_nil))))))
        (pss_one (ps_ret (pv 1)))))), ?_⟩
      refine ⟨_, rfl, isiTr hv ?_⟩
      refine ⟨_, rfl, ?_⟩
      cases t with
      | con m =>
        obtain rfl := tr_con hv
        exact ⟨_, rfl, by show 1 ≤ sizeLine; decide, fun p hp => q p _ (sNew hp) hp upd_same⟩
      | var x =>
        obtain rfl := tr_var hv
        exact ⟨_, rfl, by show 1 ≤ sizeLine; decide, fun p hp => q p _ (sNew hp) hp upd_same⟩
      | cho a1 b1 c1 e1 =>
        obtain ⟨p, v1, v2, v3, v4, rfl, sq, h1, h2, h3, h4⟩ := tr_cho hv
        refine ⟨Nat.zero_le _, fun D hD => ?_⟩
        have sD := sNew (o := .lst []) hD
        refine ⟨_, rfl, p, rfl, ⟨_, SqT.same sD sq⟩, ?_⟩
        refine for_it (walk_tup (xs := [v1, v2, v3, v4])) (fun i σ H' => ∃ (r : Addr) (o2 : Option V), σ = [some (.ref p), some (.ref r), o2] ∧ H r = none ∧ H' r = some (.lst (([a1, b1, c1, e1].take i).map Tr.lv).flatten) ∧ Same H H')
          ⟨D, none, rfl, hD, upd_same, sD⟩ (fun _ _ _ _ ⟨_, _, _, _, _, sm⟩ => SqT.same sm sq) ?_ ?_
        · rintro i x σ H1 H1' hi ⟨r, o2, rfl, nr, hr', sm⟩ ⟨rfl, hx⟩
          obtain ⟨t, ht, hdt⟩ := get4 (K := K) (H := H) hx h1 h2 h3 h4
          have hk := kid_deep ht
          have hkl := kid_lv ht
          refine ⟨_, rfl, _, rfl, x, t, rfl, tr_same sm hdt, by omega, by omega, fun p2 H2 s2 n2 g2 => ?_⟩
          have fits : (([a1, b1, c1, e1].take i).map Tr.lv).flatten.length + t.lv.length ≤ sizeLine := by
            have := part_lv (a := a1) (b := b1) (c := c1) (e := e1) i
            omega
          refine addL (s2 _ _ hr') g2 fits fun p3 H3 n3 s3 g3 => ?_
          exact ⟨p3, _, rfl, back_none (sm.trans s2) n3, by rw [g3, take_lv ht], (sm.trans s2).trans s3⟩
        · rintro σ H1 ⟨r, o2, rfl, nr, hr', sm⟩
          refine ⟨_, rfl, q r H1 sm nr ?_⟩
          rw [hr']
          exact congrArg (fun z => some (HO.lst z)) all_lv
def spLWords (K : PySem.W.Frag) : Sp := fun vs H Q _ => ∃ (v : V) (t : Tr), vs = [v] ∧ Dp K H v t.d ∧ t.Ok ∧ t.deep ≤ 3 ∧ ∀ q H', Same H H' → H q = none → H' q = some (.lst ((ascS t.ws).map V.str)) → Q (.ref q) H'
theorem ok_lwordsOf (T : Tx P K mg a) : FnOk P w K mg base CX0 5 a.f__law_tree_words a.d__law_tree_words ["tree"] (spLWords K) := by
  have F1 : FnOk P w K mg base CX0 4 a.f__law_tree_leaves a.d__law_tree_leaves ["tree"] (spLeaves K 3) := ok_lleaves T 3
  refine T._law_tree_words.fn.ok sc__law_tree_words (fun vs H Q E h => ?_) (fun cdv A outer s H vs Q E hr h => ?_)
  · obtain ⟨v, t, rfl, _⟩ := h
    rfl
  · obtain ⟨v, t, rfl, hv, ok, hd, k⟩ := h
    have nd := sc__law_tree_words.nd
    have l16 := lv_16 hd
    refine ⟨_, (pss_one (ps_ret (pe_callB (call_sortHS (P := P) (w := w) rfl) rfl T.bi.sorted PyProof.Rows.boot_sorted (pa_cons (pe_callTy (call_setOf (strSK P w) (K := K) rfl) rfl T.bi.set PyProof.Rows.boot_set (pa_cons (pe_lc (own := [("leaf", 1)]) (by rfl) nd (pi_list (pe_cf T._law_tree_leaves F1 hr (pa_cons (pv 0) pa_nil))) (blkOk_by (own := [("leaf", 1)]) (N := ["tree", "leaf"]) (sc := defScope s__law_tree_words) (by decide +kernel)) (fun _ _ _ _ _ => (pg_name (i := 1) nd rfl (Or.inl rfl))) (fun _ _ _ _ _ => pts_one (pt_val (cb_isiA (K := K) T.bi (pa_cons (pv 1) (pa_cons (gl_ty rfl T.bi.str PyProof.Rows.boot_str) pa_nil))))) (fun _ _ _ _ _ => (pv 1))) pa_nil)) pa_nil)))), ?_⟩
    refine ⟨_, rfl, v, t, rfl, hv, hd, by omega, fun L H1 s1 nL hL => ?_⟩
    refine ⟨L, rfl, ⟨_, .inl (.inl hL)⟩, fun D nD => ?_⟩
    refine lc_it (walk_list (xs := t.lv)) (fun i H' => H' D = some (.lst (((t.lv.take i).filterMap strV).map V.str)) ∧ Same H1 H') ⟨upd_same, sNew nD⟩ (fun _ _ _ ⟨_, sm⟩ => .inl (.inl (sm _ _ hL))) ?_ ?_
    · rintro i x H2 H2' hi ⟨hA, sm⟩ ⟨rfl, hx⟩
      have few := fm_len (f := strV) (xs := t.lv) (i := i)
      rcases lv_at ok hx with ⟨z, rfl, hz⟩ | ⟨m, rfl, hm⟩
      · refine ⟨rfl, _, rfl, ⟨isiTy (.base (.str z)) k_ss ?_⟩⟩
        refine ⟨_, rfl, ?_⟩
        refine ⟨_, rfl, _, hA, by rw [List.length_map]; have := sl1k; omega, ?_, sUpd nD sm⟩
        rw [upd_same, fm_snoc hx, List.map_append]
        rfl
      · refine ⟨rfl, _, rfl, ⟨isiTy (.base (.int m)) (by decide +kernel : kitB "int" "str" = some false) ?_⟩⟩
        refine ⟨_, rfl, ?_⟩
        refine ⟨?_, sm⟩
        rw [hA, fm_snoc hx]
        show some (HO.lst (List.map V.str (List.filterMap strV (List.take i t.lv)))) = some (HO.lst (List.map V.str (List.filterMap strV (List.take i t.lv) ++ [])))
        rw [List.append_nil]
    · rintro H2 ⟨hA, sm⟩
      rw [List.take_length, lv_ws] at hA
      have few := ws_len t
      refine setOf (.inl (.inl (.inl hA))) (by unfold scanBound; omega) fun q H3 n3 s3 h3 => ?_
      have few2 := len_mors (l := []) (ks := t.ws)
      refine ⟨q, _, rfl, h3, by simp only [List.length_nil] at few2; omega, fun r nr => ?_⟩
      have sA := (s1.trans sm).trans s3
      exact k r _ (sA.trans (sNew nr)) (back_none sA nr) (by rw [upd_same, ascS_mors])
def spLDigits (K : PySem.W.Frag) : Sp := fun vs H Q _ => ∃ (v : V) (t : Tr), vs = [v] ∧ Dp K H v t.d ∧ t.Ok ∧ t.deep ≤ 3 ∧ ∀ q H', Same H H' → H q = none → H' q = some (.lst ((ascI t.ns).map V.int)) → Q (.ref q) H'
theorem ok_ldigitsOf (T : Tx P K mg a) : FnOk P w K mg base CX0 5 a.f__law_tree_digits a.d__law_tree_digits ["tree"] (spLDigits K) := by
  have F1 : FnOk P w K mg base CX0 4 a.f__law_tree_leaves a.d__law_tree_leaves ["tree"] (spLeaves K 3) := ok_lleaves T 3
  refine T._law_tree_digits.fn.ok sc__law_tree_digits (fun vs H Q E h => ?_) (fun cdv A outer s H vs Q E hr h => ?_)
  · obtain ⟨v, t, rfl, _⟩ := h
    rfl
  · obtain ⟨v, t, rfl, hv, ok, hd, k⟩ := h
    have nd := sc__law_tree_digits.nd
    have l16 := lv_16 hd
    refine ⟨_, (pss_one (ps_ret (pe_callB (call_sortHI (P := P) (w := w) rfl) rfl T.bi.sorted PyProof.Rows.boot_sorted (pa_cons (pe_callTy (call_setOf (intSK P w) (K := K) rfl) rfl T.bi.set PyProof.Rows.boot_set (pa_cons (pe_lc (own := [("leaf", 1)]) (by rfl) nd (pi_list (pe_cf T._law_tree_leaves F1 hr (pa_cons (pv 0) pa_nil))) (blkOk_by (own := [("leaf", 1)]) (N := ["tree", "leaf"]) (sc := defScope s__law_tree_digits) (by decide +kernel)) (fun _ _ _ _ _ => (pg_name (i := 1) nd rfl (Or.inl rfl))) (fun _ _ _ _ _ => pts_one (pt_val (cb_isiA (K := K) T.bi (pa_cons (pv 1) (pa_cons (gl_ty rfl T.bi.int PyProof.Rows.boot_int) pa_nil))))) (fun _ _ _ _ _ => (pv 1))) pa_nil)) pa_nil)))), ?_⟩
    refine ⟨_, rfl, v, t, rfl, hv, hd, by omega, fun L H1 s1 nL hL => ?_⟩
    refine ⟨L, rfl, ⟨_, .inl (.inl hL)⟩, fun D nD => ?_⟩
    refine lc_it (walk_list (xs := t.lv)) (fun i H' => H' D = some (.lst (((t.lv.take i).filterMap intV).map V.int)) ∧ Same H1 H') ⟨upd_same, sNew nD⟩ (fun _ _ _ ⟨_, sm⟩ => .inl (.inl (sm _ _ hL))) ?_ ?_
    · rintro i x H2 H2' hi ⟨hA, sm⟩ ⟨rfl, hx⟩
      have few := fm_len (f := intV) (xs := t.lv) (i := i)
      rcases lv_at ok hx with ⟨z, rfl, hz⟩ | ⟨m, rfl, hm⟩
      · refine ⟨rfl, _, rfl, ⟨isiTy (.base (.str z)) k_si ?_⟩⟩
        refine ⟨_, rfl, ?_⟩
        refine ⟨?_, sm⟩
        rw [hA, fm_snoc hx]
        show some (HO.lst (List.map V.int (List.filterMap intV (List.take i t.lv)))) = some (HO.lst (List.map V.int (List.filterMap intV (List.take i t.lv) ++ [])))
        rw [List.append_nil]
      · refine ⟨rfl, _, rfl, ⟨isiTy (.base (.int m)) k_ii ?_⟩⟩
        refine ⟨_, rfl, ?_⟩
        refine ⟨_, rfl, _, hA, by rw [List.length_map]; have := sl1k; omega, ?_, sUpd nD sm⟩
        rw [upd_same, fm_snoc hx, List.map_append]
        rfl
    · rintro H2 ⟨hA, sm⟩
      rw [List.take_length, lv_ns] at hA
      have few := ns_len t
      refine setOf (.inl (.inl (.inl hA))) (by unfold scanBound; omega) fun q H3 n3 s3 h3 => ?_
      have few2 := len_mors (l := []) (ks := t.ns)
      refine ⟨q, _, rfl, h3, by simp only [List.length_nil] at few2; omega, fun r nr => ?_⟩
      have sA := (s1.trans sm).trans s3
      exact k r _ (sA.trans (sNew nr)) (back_none sA nr) (by rw [upd_same, ascI_mors])
end
end Z
set_option maxRecDepth 100000
set_option maxHeartbeats 4000000
namespace Z
open PySem PySem.Spec PyProof.Rows L2
theorem plp_back {f : List Nat → Option (Tr × List Nat)} (h : ∀ l t r, f l = some (t, r) → ls t.text ++ r = l) {a b c e : Tr} {l z : List Nat} (hp : plp f codes l = some ([a, b, c, e], z)) : ls a.text ++ (61 :: (ls b.text ++ (63 :: (ls c.text ++ (58 :: (ls e.text ++ (41 :: z))))))) = l := by
  have step : ∀ {s : Nat} {ss l : List Nat} {t : Tr} {ts : List Tr} {z : List Nat}, plp f (s :: ss) l = some (t :: ts, z) → ∃ q, ls t.text ++ s :: q = l ∧ plp f ss q = some (ts, z) := fun {s ss l t ts z} e => by
    unfold plp at e
    split at e
    · rename_i t' c' q e1
      split at e
      · rename_i hcs
        split at e
        · rename_i us y e2
          cases e
          exact ⟨q, by rw [← hcs]; exact h _ _ _ e1, e2⟩
        · cases e
      · cases e
    · cases e
  obtain ⟨q1, h1, p1⟩ := step hp
  obtain ⟨q2, h2, p2⟩ := step p1
  obtain ⟨q3, h3, p3⟩ := step p2
  obtain ⟨q4, h4, p4⟩ := step p3
  have : q4 = z := by
    unfold plp at p4
    cases p4
    rfl
  rw [← h1, ← h2, ← h3, ← h4, this]
theorem pl_back : ∀ (d : Nat) (l : List Nat) (t : Tr) (r : List Nat), pl d l = some (t, r) → ls t.text ++ r = l
  | 0, l, t, r, h => by cases h
  | d + 1, [], t, r, h => by cases h
  | d + 1, c :: q, t, r, h => by
    unfold pl at h
    split at h
    · rename_i hc
      cases h
      unfold isDB at hc
      simp at hc
      rw [con_text ⟨by omega, by omega⟩]
      show (48 + ((c : Int) - 48).toNat) :: q = _
      rw [show 48 + ((c : Int) - 48).toNat = c by omega]
    · split at h
      · cases h
        show ls (tx ((c :: q).takeWhile isLB)) ++ _ = _
        rw [ls_tx]
        exact List.takeWhile_append_dropWhile
      · split at h
        · cases h
        · rename_i h3
          unfold plx at h
          split at h
          · rename_i a b c' e' z e2
            cases h
            have := plp_back (fun l t r => pl_back d l t r) e2
            rw [cho_text]
            have hc : c = 40 := by omega
            rw [hc]
            simp only [List.cons_append, List.append_assoc, List.nil_append]
            rw [this]
          · cases h
theorem planOf_text {z : Str} {t : Tr} (h : planOf z = some t) : t.text = z := by
  unfold planOf at h
  split at h
  · rename_i u e
    cases h
    have := pl_back 3 _ _ _ e
    rw [List.append_nil] at this
    exact str_ext this
  · cases h
def ShowsAs (K : PySem.W.Frag) (H : Hp) (x : V) (s : Str) : Prop := (∃ d, Dp K H x d ∧ d.showable = true ∧ d.depth ≤ 60 ∧ d.shown.length ≤ sizeLine ∧ s = d.shown) ∨ ∃ e, x = .ref e ∧ H e = some (.dK []) ∧ s = (PyData.dict []).shown
theorem ShowsAs.same {K : PySem.W.Frag} {H H' : Hp} {x : V} {s : Str} (e : Same H H') (h : ShowsAs K H x s) : ShowsAs K H' x s := by
  rcases h with ⟨d, h1, h2⟩ | ⟨p, h1, h2, h3⟩
  · exact .inl ⟨d, dp_same e h1, h2⟩
  · exact .inr ⟨p, h1, e _ _ h2, h3⟩
theorem ShowsAs.repr {K : PySem.W.Frag} {H : Hp} {x : V} {s : Str} {Q : VK} (h : ShowsAs K H x s) (q : Q (.str s) H) : rRepr K [x] H Q := by
  rcases h with ⟨d, h1, h2, h3, h4, rfl⟩ | ⟨p, rfl, h2, rfl⟩
  · exact reprD h1 h2 h3 h4 q
  · exact repr0 h2 q
def Plain (z : Str) (n : Nat) : Prop := z.length ≤ n ∧ ∀ c ∈ ls z, c < 16 ^ 8
theorem Plain.shows {K : PySem.W.Frag} {H : Hp} {z : Str} {n : Nat} (h : Plain z n) (hn : n ≤ 100000) : ShowsAs K H (.str z) (reprText z) := by
  have sl := PySem.sizeLine_eq
  refine .inl ⟨_, .str z, by simp [PyData.showable], by simp [PyData.depth], ?_, by simp only [PyData.shown]⟩
  simp only [PyData.shown]
  have h1 := PySem.StrLaws.reprText_len z h.2
  have h2 := h.1
  omega
theorem cut_plain {z : Str} {n : Nat} (h : Plain z n) (lo hi : Option Int) : ∀ c ∈ ls (cutS z lo hi), c < 16 ^ 8 := fun c hc => by
  unfold cutS at hc
  have : c ∈ (z.cps.toList.drop (HT.sIx z.length 0 lo)).take (HT.sIx z.length z.length hi - HT.sIx z.length 0 lo) := by simpa [ls] using hc
  exact h.2 c (List.mem_of_mem_drop (List.mem_of_mem_take this))
theorem cut_lo {z : Str} {k : Nat} (hk : k ≤ z.length) : (cutS z none (some (k : Nat))).length = k := by
  unfold cutS
  rw [HT.sIx_none, HT.sIx_nat, Nat.min_eq_left hk]
  show (List.toArray _).size = k
  rw [List.size_toArray, List.length_take, List.length_drop, Array.length_toList]
  show min (k - 0) (z.length - 0) = k
  omega
theorem cut_hi {z : Str} {k : Nat} : (cutS z (some (k : Nat)) none).length = z.length - k := by
  unfold cutS
  rw [HT.sIx_none, HT.sIx_nat]
  show (List.toArray _).size = _
  rw [List.size_toArray, List.length_take, List.length_drop, Array.length_toList]
  show min (z.length - min k z.length) (z.length - min k z.length) = z.length - k
  omega
theorem app_plain {a b : Str} (h1 : ∀ c ∈ ls a, c < 16 ^ 8) (h2 : ∀ c ∈ ls b, c < 16 ^ 8) : ∀ c ∈ ls (a ++ b), c < 16 ^ 8 := fun c hc => by
  rw [ls_app, List.mem_append] at hc
  rcases hc with hc | hc
  · exact h1 c hc
  · exact h2 c hc
theorem tyX_same {K : PySem.W.Frag} {H H' : Hp} {x : V} {t : Value} (k : Same H H') (h : TyX K H x t) : TyX K H' x t := by
  cases h with
  | base h =>
    cases h with
    | non => exact .base .non
    | bl b => exact .base (.bl b)
    | int i => exact .base (.int i)
    | str z => exact .base (.str z)
    | flt z => exact .base (.flt z)
    | lst e => exact .base (.lst (k _ _ e))
    | frz e => exact .base (.frz (k _ _ e))
    | tup e => exact .base (.tup (k _ _ e))
    | dK e => exact .base (.dK (k _ _ e))
    | dT e => exact .base (.dT (k _ _ e))
    | ins e cl ha hn htk hm => exact .base (.ins (k _ _ e) cl ha hn htk hm)
  | byt b => exact .byt b
  | set e => exact .set (k _ _ e)
  | kList e c => exact .kList e c
  | kTuple e c => exact .kTuple e c
  | kDict e c => exact .kDict e c
  | fTuple e => exact .fTuple (k _ _ e)
  | fDict e => exact .fDict (k _ _ e)
theorem po_same {K : PySem.W.Frag} {C : Addr} {H H' : Hp} {x : V} {r : Option Tr} (k : Same H H') (h : PO K C H x r) : PO K C H' x r := by
  cases h with
  | str z hz => exact .str z hz
  | own h => exact .own (h.same k)
  | int n => exact .int n
  | oth h k1 k2 e k3 k4 => exact .oth (tyX_same k h) k1 k2 e k3 k4
section
variable {X : Cx} {CX : CXT} {k : Nat} {f C : Addr} {fd : FuncData} {ps : List Str} {sp : Sp} {E : L2.St → XK} {x : Str} {p pos : Pos} {e : Expr} {es : List Expr} {t : TA}
def tMakeX (C : Addr) (sp : Sp) (E : L2.St → XK) (t : TA) : TE := fun σ H Q => t σ H fun vs H1 => ∀ o dx, H1 o = none → H1 dx = none → dx ≠ o → sp (.ref o :: vs) (upd (upd H1 dx (.own o)) o (.ins C dx [])) (fun v H2 => v = .non ∧ Q (.ref o) H2) (E σ)
theorem pe_makeX (M : Mk X.K C f) (F : FnOk X.prog X.w X.K X.mg X.base CX k f fd ps sp) (room : Room (k + 1) X.A) (hg : Gl X x) (hm : X.mg x = some (.ref C)) (bd : Binds X.K fd ps []) (go : ∀ σ, PassesAt CX X σ (E σ))
    (ha : PA X (e :: es) t) (hdb : (x == ("__debug__" : Str)) = false := by decide) (he : starEach (e :: es) X.env = (false, eval e X.env) :: starEach es X.env := by rfl) (hpl : (backTo pos (starEach es X.env)).any (·.1) = false := by rfl) :
    PE X (.Call (.Name x p) (e :: es) [] pos) (tMakeX C sp E t) := by
  constructor
  intro pins s0 σ H0 Q I0 h
  refine wpAny_Call_Name_kw (ld_glob I0 hg hm ?_ hdb)
  refine PySem.W.callWith_K (h₀ := X.base) I0.ok.mod.kin M.kp (thn (ha.run pos pins s0 σ H0 _ I0 h) ?_) he hpl
  rintro us s ⟨vs, H, I, rv, want⟩
  refine ⟨I.kIn, ?_⟩
  have fresh1 := I.hok.fresh (Nat.le_succ s.heap.objs.size)
  have fresh0 := I.hok.fresh (Nat.le_refl s.heap.objs.size)
  have wish := want _ _ fresh1 fresh0 (Nat.ne_of_lt (Nat.lt_succ_self _))
  have J := Inv.made (C := C) I
  have many : Vals (V.ref (s.heap.objs.size + 1) :: vs) (Value.ref (s.heap.objs.size + 1) :: us) := .cons rfl rv
  have few : (Value.ref (s.heap.objs.size + 1) :: us).length = ps.length := many.length.symm.trans (F.len _ _ _ _ wish)
  have bound := bd _ (Value.ref (s.heap.objs.size + 1) :: us) J.kIn (by rw [List.append_nil]; exact few)
  rw [List.append_nil] at bound
  have runs := F.run _ X.stack _ _ ⟨Value.ref (s.heap.objs.size + 1) :: us, []⟩ _ _ _ (E σ) (room.make C us []) (J.env0.make C us []) bound many wish
  refine wpAny_call (make_map (f := f) I.kIn M.makes M.init (beq_iff_eq.mp M.fn) (codeAny_mono runs ?_))
  intro res s' back
  match res, back with
  | .error er, back => exact go σ pins _ _ er s' J back
  | .ok (.ret u), back =>
    obtain ⟨v, H', I3, rv', ev, q3⟩ := J.after back
    subst ev
    exact ⟨rv', ⟨V.ref (s.heap.objs.size + 1), H', I3, rfl, q3⟩⟩
  | .ok .next, back => exact back.elim
  | .ok .brk, back => exact back.elim
  | .ok .cont, back => exact back.elim
end
section
variable {P : Program} {w : World} {K : PySem.W.Frag} {mg : Str → Option Value} {base : Heap} {a : Ad}
def spStr (K : PySem.W.Frag) (C : Addr) : Sp := fun vs H Q _ => ∃ (p : Addr) (t : Tr), vs = [.ref p] ∧ TermAt K C H p t ∧ t.deep ≤ 3 ∧ ∀ H', Same H H' → Q (.str t.text) H'
theorem ok_str (T : Tx P K mg a) : FnOk P w K mg base CX0 5 a.f_Term___str__ a.d_Term___str__ ["self"] (spStr K a.C_Term) := by
  have F1 : FnOk P w K mg base CX0 4 a.f_text_of a.d_text_of ["plan"] (spText K 3) := ok_text T 3
  refine T.Term___str__.ok sc_Term___str__ (fun vs H Q E h => ?_) (fun cdv A outer s H vs Q E hr h => ?_)
  · obtain ⟨p, t, rfl, _⟩ := h
    rfl
  · obtain ⟨p, t, rfl, ⟨dx, u, h1, h2, h3⟩, hd, q⟩ := h
    refine ⟨_, (pss_one (ps_ret (pe_joined1 (pe_fmt (pe_cf T.text_of F1 hr (pa_cons (pe_fld (pv 0) rfl) pa_nil)))))), ?_⟩
    refine ⟨_, rfl, p, _, dx, _, u, rfl, h1, T.c_Term, T.no_Term_tree, rfl, ?_⟩
    refine ⟨u, t, rfl, h2, h3.1, hd, by decide, fun H1 s1 => .inl ⟨_, rfl, ?_, q _ s1⟩⟩
    have := text_small h3.1 hd
    have := sl10
    omega
inductive WQ (K : PySem.W.Frag) (H : Hp) : V → Bool → Prop
  | str (z : Str) (h : z.length ≤ sizeLine) : WQ K H (.str z) (wordB (ls z))
  | oth {x : V} {ty : String} (h : TyX K H x (.type ty)) (k : kitB ty "str" = some false) : WQ K H x false
def spWordX (K : PySem.W.Frag) : Sp := fun vs H Q _ => ∃ (x : V) (b : Bool), vs = [x] ∧ WQ K H x b ∧ ∀ H', Same H H' → Q (.bl b) H'
theorem ok_wordX (T : Tx P K mg a) : FnOk P w K mg base CX0 1 a.f_is_word a.d_is_word ["value"] (spWordX K) := by
  refine T.is_word.fn.ok sc_is_word (fun vs H Q E h => ?_) (fun cdv A outer s H vs Q E hr h => ?_)
  · obtain ⟨x, b, rfl, _⟩ := h
    rfl
  · obtain ⟨x, b, rfl, hx, q⟩ := h
    have nd := sc_is_word.nd
    refine ⟨_, (pss_cons (ps_if (PW.pt (pw_or (pt_not (pt_val (cb_isi T.bi (pa_cons (pv 0) (pa_cons (gl_ty rfl T.bi.str PyProof.Rows.boot_str) pa_nil))))) (pw_or1 (pt_not (pt_chain op_le op_le pe_int (cb_len T.bi (pa_cons (pv 0) pa_nil)) (pe_gi T.v_MOST_LETTERS))))))
      (pss_one (ps_ret pe_bl)) pss_nil)
      (pss_one (ps_ret (pe_cmpR (op_eqX hr) (pe_lc (own := [("sign", 1)]) (by rfl) nd (pi_str (pv 0)) (blkOk_by (own := [("sign", 1)]) (N := ["value", "sign"]) (sc := defScope s_is_word) (by decide +kernel)) (fun _ _ _ _ _ => (pg_name (i := 1) nd rfl (Or.inl rfl))) (fun _ _ _ _ _ => pts_one (pt_cmpR (op_notInA (K := K)) (pv 1) (pe_gs T.v_LETTERS) rfl)) (fun _ _ _ _ _ => (pv 1))) (pe_lst pa_nil) (nomark _))))), ?_⟩
    refine ⟨_, rfl, ?_⟩
    cases hx with
    | oth h k => exact isiTy h k ⟨_, rfl, q H (Same.refl H)⟩
    | str z hz =>
    refine isiTy (.base (.str z)) k_ss ?_
    refine ⟨_, rfl, ?_⟩
    refine ⟨_, rfl, lenS hz ?_⟩
    refine ⟨1, _, rfl, rfl, _, rfl, ?_⟩
    have L : (z.length : Int) = ((ls z).length : Int) := by rw [ls_len]
    by_cases h1 : (1 : Int) ≤ (z.length : Int)
    · rw [decide_eq_true h1]
      refine ⟨_, 8, rfl, rfl, ?_⟩
      by_cases h2 : (z.length : Int) ≤ 8
      · refine ⟨_, rfl, ?_⟩
        rw [decide_eq_true h2]
        have hw : wordB (ls z) = (ls z).all isLB := by
          unfold wordB
          rw [decide_eq_true (show 1 ≤ (ls z).length by omega), decide_eq_true (show (ls z).length ≤ 8 by omega)]
          rfl
        refine ⟨_, rfl, z, rfl, fun D hD => ?_⟩
        refine lc_it (walk_str (z := z)) (fun i H' => ∃ acc : List V, H' D = some (.lst acc) ∧ Same H H' ∧ acc.length ≤ i ∧ acc.isEmpty = ((ls z).take i).all isLB) ⟨[], upd_same, sNew hD, Nat.le_refl _, rfl⟩ (fun _ _ _ _ => trivial) ?_ ?_
        · rintro i x H1 H1' hi ⟨acc, hA, sm, ln, em⟩ ⟨rfl, c, hc, rfl⟩
          refine ⟨rfl, _, rfl, ninSgn ?_⟩
          have hc' : (ls z)[i]? = some c := by
            show z.cps.toList[i]? = some c
            rw [Array.getElem?_toList]
            exact hc
          have tk : (ls z).take (i + 1) = (ls z).take i ++ [c] := by rw [List.take_succ, hc']; rfl
          refine ⟨_, rfl, ?_⟩
          rw [mem_let']
          cases hl : isLB c with
          | true => exact ⟨acc, hA, sm, Nat.le_succ_of_le ln, by rw [tk, List.all_append, ← em]; simp [hl]⟩
          | false =>
            have small : acc.length < sizeLine := by
              have : i < z.length := hi
              omega
            refine ⟨_, rfl, acc, hA, small, acc ++ [.str ⟨#[c]⟩], upd_same, fun b o e => ?_, by rw [List.length_append]; exact Nat.succ_le_succ ln, ?_⟩
            · rw [upd_ne (ne_of_none e hD)]
              exact sm b o e
            · rw [tk, List.all_append]
              simp [hl]
        · rintro H1 ⟨acc, hA, sm, ln, em⟩
          refine ⟨Nat.zero_le _, fun p hp => ?_⟩
          refine eqL0 (.inl (.inl (by rw [upd_ne (ne_of_none hA hp)]; exact hA))) upd_same ?_
          have : (ls z).take z.cps.size = ls z := List.take_of_length_le (by simp [ls])
          rw [em, this, ← hw]
          exact q _ (sm.trans (sNew hp))
      · refine ⟨_, rfl, ?_⟩
        rw [decide_eq_false h2]
        have hw : wordB (ls z) = false := by
          unfold wordB
          rw [decide_eq_false (show ¬ (ls z).length ≤ 8 by omega), Bool.and_false, Bool.false_and]
        rw [hw] at q
        exact q _ (fun _ _ e => e)
    · rw [decide_eq_false h1]
      have hw : wordB (ls z) = false := by
        unfold wordB
        rw [decide_eq_false (show ¬ 1 ≤ (ls z).length by omega), Bool.false_and, Bool.false_and]
      rw [hw] at q
      exact ⟨_, rfl, q _ (fun _ _ e => e)⟩
end
end Z
set_option maxRecDepth 100000
set_option maxHeartbeats 4000000
namespace Z
open PySem PySem.Spec PyProof.Rows L2
def sgOf (b : Bool) : Str := if b then " <= " else " := "
def dtext (x : Str) (t : Tr) (b : Bool) : Str := x ++ sgOf b ++ t.text
def dpair (l : List Str) : Option (Str × Tr) := match l with
  | [x, y] => if wordB (ls x) = true then (match planOf y with
    | some t => some (x, t)
    | none => none) else none
  | _ => none
def dpart (z : Str) (b : Bool) : Option (Str × Tr) := dpair (Txt.split z (sgOf b))
def dparts (z : Str) : Option (Str × Tr × Bool) := match dpart z false with
  | some p => some (p.1, p.2, false)
  | none => match dpart z true with
    | some p => some (p.1, p.2, true)
    | none => none
theorem dpair_some {l : List Str} {x : Str} {t : Tr} (h : dpair l = some (x, t)) : l = [x, t.text] ∧ Word x ∧ t.Ok ∧ t.deep ≤ 3 := by
  unfold dpair at h
  split at h
  · rename_i x' y
    split at h
    · rename_i hw
      split at h
      · rename_i u e
        cases h
        have := planOf_fine e
        rw [planOf_text e]
        exact ⟨rfl, wordB_iff.mp hw, this.1, this.2⟩
      · cases h
    · cases h
  · cases h
theorem dpart_some {z : Str} {b : Bool} {x : Str} {t : Tr} (h : dpart z b = some (x, t)) : Txt.split z (sgOf b) = [x, t.text] ∧ Word x ∧ t.Ok ∧ t.deep ≤ 3 ∧ dtext x t b = z := by
  obtain ⟨e, h1, h2, h3⟩ := dpair_some h
  refine ⟨e, h1, h2, h3, ?_⟩
  have := PySem.StrLaws.join_split z (sgOf b)
  rw [e] at this
  exact this
theorem dparts_some {z x : Str} {t : Tr} {b : Bool} (h : dparts z = some (x, t, b)) : Word x ∧ t.Ok ∧ t.deep ≤ 3 ∧ dtext x t b = z := by
  unfold dparts at h
  split at h
  · rename_i p e
    cases h
    exact (dpart_some e).2
  · split at h
    · rename_i p e
      cases h
      exact (dpart_some e).2
    · cases h
theorem no_space : ∀ t : Tr, t.Ok → ∀ c ∈ ls t.text, c ≠ 32
  | .con n, ok, c, hc => by
    rw [con_text ok] at hc
    obtain ⟨h1, h2⟩ : 0 ≤ n ∧ n ≤ 9 := ok
    have := List.mem_singleton.mp hc
    omega
  | .var w, ok, c, hc => by
    have h : isLet c := (show Word w from ok).2.2 c hc
    obtain ⟨h1, h2⟩ := h
    omega
  | .cho a b d e, ok, c, hc => by
    obtain ⟨oa, ob, od, oe⟩ : a.Ok ∧ b.Ok ∧ d.Ok ∧ e.Ok := ok
    rw [cho_text] at hc
    simp only [List.mem_cons, List.mem_append, List.not_mem_nil, or_false] at hc
    rcases hc with rfl | hc | rfl | hc | rfl | hc | rfl | hc | rfl
    · decide
    · exact no_space a oa c hc
    · decide
    · exact no_space b ob c hc
    · decide
    · exact no_space d od c hc
    · decide
    · exact no_space e oe c hc
    · decide
theorem word_space {x : Str} (h : Word x) : ∀ c ∈ ls x, c ≠ 32 := fun c hc => by
  obtain ⟨h1, h2⟩ : isLet c := h.2.2 c hc
  omega
theorem spl_skip {S q : List Nat} : ∀ {p acc : List Nat}, (∀ c ∈ p, c ≠ 32) → TL.spl (32 :: S) 0 acc (p ++ q) = TL.spl (32 :: S) 0 (acc ++ p) q
  | [], acc, _ => by rw [List.nil_append, List.append_nil]
  | c :: p, acc, h => by
    rw [List.cons_append, TL.spl_miss (TL.pre_of_head _ _ (h c (List.mem_cons_self ..))), spl_skip (fun d hd => h d (List.mem_cons_of_mem _ hd)), List.append_assoc]
    rfl
theorem sg_ls (b : Bool) : ls (sgOf b) = [32, if b then 60 else 58, 61, 32] := by cases b <;> decide +kernel
theorem split_ls (z : Str) (b : Bool) : (Txt.split z (sgOf b)).map ls = TL.spl [32, if b then 60 else 58, 61, 32] 0 [] (ls z) := by
  have h := TL.split_spl z (sgOf b) (by rw [show TL.tl (sgOf b) = ls (sgOf b) from rfl, sg_ls]; exact List.cons_ne_nil _ _) (TL.kind_ok (by cases b <;> decide +kernel))
  rw [show TL.tl (sgOf b) = ls (sgOf b) from rfl, sg_ls] at h
  exact h
theorem map_ls {l m : List Str} (h : l.map ls = m.map ls) : l = m := TL.map_tl_inj h
theorem split_own {x : Str} {t : Tr} {b : Bool} (hx : Word x) (ht : t.Ok) : Txt.split (dtext x t b) (sgOf b) = [x, t.text] := by
  refine map_ls ?_
  rw [split_ls]
  unfold dtext
  rw [ls_app, ls_app, List.append_assoc, spl_skip (word_space hx), List.nil_append, sg_ls]
  have hp : TL.pre [32, if b then 60 else 58, 61, 32] (32 :: ([if b then 60 else 58, 61, 32] ++ ls t.text)) = true := TL.pre_self [32, if b then 60 else 58, 61, 32] _
  rw [List.cons_append, TL.spl_hit hp, TL.spl_pass]
  show _ :: TL.spl _ 0 [] (ls t.text) = _
  have := spl_skip (S := [if b then 60 else 58, 61, 32]) (q := []) (acc := []) (no_space t ht)
  rw [List.append_nil] at this
  rw [this, TL.spl_nil]
  rfl
theorem split_oth {x : Str} {t : Tr} {b : Bool} (hx : Word x) (ht : t.Ok) : Txt.split (dtext x t b) (sgOf (!b)) = [dtext x t b] := by
  refine map_ls ?_
  rw [split_ls]
  unfold dtext
  rw [ls_app, ls_app, List.append_assoc, spl_skip (word_space hx), List.nil_append, sg_ls]
  rw [List.cons_append, TL.spl_miss (by cases b <;> rfl)]
  rw [show ([if b = true then 60 else 58, 61, 32] ++ ls t.text) = [if b = true then 60 else 58, 61] ++ ([32] ++ ls t.text) from rfl, spl_skip (by intro c hc; simp only [List.mem_cons, List.not_mem_nil, or_false] at hc; rcases hc with rfl | rfl <;> (try split) <;> decide)]
  rw [List.cons_append, TL.spl_miss (by
    cases h : ls t.text with
    | nil => cases b <;> rfl
    | cons c q =>
      cases hq : TL.pre [32, if (!b) = true then 60 else 58, 61, 32] (32 :: ([] ++ (c :: q))) with
      | false => rfl
      | true =>
        exfalso
        have e : (32 :: c :: q).take 4 = [32, if (!b) = true then 60 else 58, 61, 32] := eq_of_beq hq
        have : (32 : Nat) ∈ ls t.text := by
          rw [h]
          have hm : (32 : Nat) ∈ (c :: q).take 3 := by
            rw [List.take_succ_cons] at e
            injection e with e1 e2
            rw [e2]
            simp
          exact List.mem_of_mem_take hm
        exact no_space t ht 32 this rfl)]
  rw [List.nil_append]
  have := spl_skip (S := [if (!b) = true then 60 else 58, 61, 32]) (q := []) (acc := (ls x ++ [32] ++ [if b = true then 60 else 58, 61]) ++ [32]) (no_space t ht)
  rw [List.append_nil] at this
  rw [this, TL.spl_nil]
  show [_] = [ls (x ++ sgOf b ++ t.text)]
  rw [ls_app, ls_app, sg_ls]
  simp
theorem dparts_text {x : Str} {t : Tr} {b : Bool} (hx : Word x) (ht : t.Ok) (hd : t.deep ≤ 3) : dparts (dtext x t b) = some (x, t, b) := by
  have own : dpart (dtext x t b) b = some (x, t) := by
    unfold dpart
    rw [split_own hx ht]
    unfold dpair
    show (if wordB (ls x) = true then _ else none) = _
    rw [if_pos (wordB_iff.mpr hx), plan_text ht hd]
  unfold dparts
  cases b with
  | false => rw [own]
  | true =>
    have oth : dpart (dtext x t true) false = none := by
      unfold dpart
      rw [show sgOf false = sgOf (!true) from rfl, split_oth hx ht]
      rfl
    rw [oth, own]
end Z
set_option maxRecDepth 100000
set_option maxHeartbeats 4000000
namespace Z
open PySem PySem.Spec PyProof.Rows L2
section
variable {P : Program} {w : World} {K : PySem.W.Frag} {mg : Str → Option Value} {base : Heap} {a : Ad}
def spDParts (K : PySem.W.Frag) : Sp := fun vs H Q _ => ∃ x : V, vs = [x] ∧ ((∃ z : Str, x = .str z ∧ z.length + 2 ≤ sizeLine ∧ (dparts z = none → ∀ H', Same H H' → Q .non H') ∧
  ∀ y t b, dparts z = some (y, t, b) → ∀ p H', Same H H' → H' p = some (.tup [.str y, .str t.text, .bl b]) → Q (.ref p) H') ∨ (∃ ty, TyX K H x (.type ty) ∧ kitB ty "str" = some false ∧ Q .non H))
end
end Z
set_option maxRecDepth 100000
set_option maxHeartbeats 4000000
namespace Z
open PySem PySem.Spec PyProof.Rows L2
theorem k_bb : kitB "bool" "bool" = some true := by decide +kernel
def dflds (x : Str) (q : Addr) (b : Bool) : List (Str × V) := [("target", .str x), ("source", .ref q), ("is_late", .bl b)]
def DeedAt (K : PySem.W.Frag) (CD CT : Addr) (H : Hp) (p : Addr) (x : Str) (t : Tr) (b : Bool) : Prop := ∃ dx q, H p = some (.ins CD dx (dflds x q b)) ∧ TermAt K CT H q t
theorem DeedAt.same {K : PySem.W.Frag} {CD CT : Addr} {H H' : Hp} {p : Addr} {x : Str} {t : Tr} {b : Bool} (e : Same H H') (h : DeedAt K CD CT H p x t b) : DeedAt K CD CT H' p x t b := by
  obtain ⟨dx, q, h1, h2⟩ := h
  exact ⟨dx, q, e _ _ h1, h2.same e⟩
theorem wq_true {K : PySem.W.Frag} {H : Hp} {x : V} (h : WQ K H x true) : ∃ s, x = .str s ∧ Word s := by
  generalize hb : true = b at h
  cases h with
  | str s h => exact ⟨s, rfl, wordB_iff.mp hb.symm⟩
  | oth h k => cases hb
theorem po_but {K : PySem.W.Frag} {C CD p dx : Addr} {H H' : Hp} {x : V} {t : Tr} (hp : H p = some (.ins CD dx [])) (b : But p H H') (h : PO K C H x (some t)) : PO K C H' x (some t) := by
  generalize hr : some t = r at h
  cases h with
  | str z h => exact .str z h
  | int n => exact .int n
  | oth h => cases hr
  | own h =>
    obtain ⟨d, u, h1, h2, h3⟩ := h
    have ne : ∀ {q : Addr} {o : HO}, H q = some o → o ≠ .ins CD dx [] → q ≠ p := fun {q o} h n z => by
      rw [z, hp] at h
      exact n (Option.some.inj h).symm
    have tk : TK H H' := ⟨fun c ys e => b c _ (ne e (by intro z; cases z)) e, fun c o u e => b c _ (ne e (by intro z; cases z)) e⟩
    exact .own ⟨d, u, b _ _ (ne h1 (by intro z; cases z)) h1, tr_tk tk _ h2, h3⟩
inductive LQ (K : PySem.W.Frag) (H : Hp) : V → Option Bool → Prop
  | bl (b : Bool) : LQ K H (.bl b) (some b)
  | oth {x : V} {ty : String} (h : TyX K H x (.type ty)) (k : kitB ty "bool" = some false) : LQ K H x none
theorem LQ.same {K : PySem.W.Frag} {H H' : Hp} {x : V} {r : Option Bool} (e : Same H H') (h : LQ K H x r) : LQ K H' x r := by
  cases h with
  | bl b => exact .bl b
  | oth h k => exact .oth (tyX_same e h) k
theorem WQ.same {K : PySem.W.Frag} {H H' : Hp} {x : V} {r : Bool} (e : Same H H') (h : WQ K H x r) : WQ K H' x r := by
  cases h with
  | str z h => exact .str z h
  | oth h k => exact .oth (tyX_same e h) k
def Flies (E : XK) (X : Addr) (H : Hp) (v : V) : Prop := ∀ d H1, Same H H1 → H1 d = none → E (.ref X) (some d) (upd H1 d (.xd [("value", v)]))
section
variable {P : Program} {w : World} {K : PySem.W.Frag} {mg : Str → Option Value} {base : Heap} {a : Ad}
def spDInit (K : PySem.W.Frag) (CD CT X : Addr) : Sp := fun vs H Q E => ∃ (p dx : Addr) (x y z : V) (wb : Bool) (r : Option Tr) (lb : Option Bool), vs = [.ref p, x, y, z] ∧ H p = some (.ins CD dx []) ∧ WQ K H x wb ∧ PO K CT H y r ∧ LQ K H z lb ∧
  (wb = false → Flies E X H x) ∧ (wb = true → r = none → Flies E X H y) ∧ (wb = true → ∀ t, r = some t → lb = none → Flies E X H z) ∧
  (∀ s t b H', x = .str s → Word s → r = some t → lb = some b → But p H H' → DeedAt K CD CT H' p s t b → Q .non H')
end
end Z
set_option maxRecDepth 100000
set_option maxHeartbeats 4000000
namespace Z
open PySem PySem.Spec PyProof.Rows L2
section
variable {X : Cx} {CX : CXT} {C f : Addr} {fd : FuncData} {ps : List Str} {sp : Sp} {E : XK} {n : Nat}
structure rEqO (C : Addr) (sp : Sp) (E : XK) (x y : V) (H : Hp) (Q : VK) : Prop where
  h : ∃ a dx fs, x = .ref a ∧ H a = some (.ins C dx fs) ∧ ((∃ b dy gs, y = .ref b ∧ H b = some (.ins C dy gs)) ∨ ∃ z, y = .str z) ∧ sp [x, y] H (fun v H' => ∃ r, v = .bl r ∧ Q (.bl r) H') E
theorem op_eqOwn (F : FnOk X.prog X.w X.K X.mg X.base CX n f fd ps sp) (nf : PySem.W.notFirst X.K C (.type "str") = true) (hs : PySem.W.findIn X.K (.ref C) "__eq__" = some (some (.ref f)))
    (hf : PySem.W.isFn X.K (.ref f) = true) (hb : Binds X.K fd ps []) (hx : Passes CX X E) (hr : Room n X.A) : OpR X (compareOp .Eq) (rEqO C sp E) := by
  intro pins s σ H x y u v Q I rx ry ⟨a, dx, fs, ex, ha, hy, hsp⟩
  subst ex
  obtain rfl : u = Value.ref a := rx
  obtain ⟨mA, J, _⟩ := ins_get I.hok ha
  obtain ⟨od, J, _⟩ := J.look
  obtain ⟨m, hF⟩ := I.fr
  have hl := F.len _ _ _ _ hsp
  have rv : Vals [V.ref a, y] [Value.ref a, v] := .cons rfl (.cons ry .nil)
  have go : wpAny (model X.prog X.w) X.A (call (.ref f) [.ref a, v]) (PySem.W.CmpBack (EP X pins σ Q)) X.xe s := by
    refine wpAny_call (codeAny_mono (F.run X.A X.stack s H ⟨[.ref a, v], []⟩ [.ref a, v] [.ref a, y] _ E hr I.env0 (by
      have := hb s [.ref a, v] I.kIn (by simpa using hl)
      simpa using this) rv hsp) fun r s' hq => ?_)
    cases r with
    | error e => exact hx pins σ H s e s' I hq
    | ok fl =>
      cases fl with
      | ret w =>
        obtain ⟨z, H', I', rz, r, ez, q⟩ := I.after hq
        subst ez
        obtain rfl : w = Value.bool r := rz
        exact ⟨.bl r, H', I', rfl, q⟩
      | next => exact False.elim hq
      | brk => exact False.elim hq
      | cont => exact False.elim hq
  rcases hy with ⟨b, dy, gs, ey, hb'⟩ | ⟨z, ey⟩
  · subst ey
    obtain rfl : v = Value.ref b := ry
    obtain ⟨mB, J', _⟩ := ins_get I.hok hb'
    obtain ⟨od', J', _⟩ := J'.look
    refine PySem.W.cmp_K (op := .Eq) (tb := .ref C) hr.units0 hF I.ok.mod.kin J J'.type (by simp [PySem.W.notFirst]) hs hf go
  · subst ey
    obtain ⟨t, rfl⟩ := ry
    refine PySem.W.cmp_K (op := .Eq) (tb := .type "str") hr.units0 hF I.ok.mod.kin J (PySem.W.Looks.of_pure rfl) nf hs hf go
end
section
variable {P : Program} {w : World} {K : PySem.W.Frag} {mg : Str → Option Value} {base : Heap} {a : Ad}
def spDOf (K : PySem.W.Frag) (CD CT X : Addr) : Sp := fun vs H Q E => ∃ x : V, vs = [x] ∧ ((∃ z : Str, x = .str z ∧ z.length + 2 ≤ sizeLine ∧ (dparts z = none → Flies E X H x) ∧
  ∀ y t b, dparts z = some (y, t, b) → ∀ p H', Same H H' → DeedAt K CD CT H' p y t b → Q (.ref p) H') ∨ (∃ ty, TyX K H x (.type ty) ∧ kitB ty "str" = some false ∧ Flies E X H x))
theorem make_deed {H : Hp} {x z : V} {y : V} {wb : Bool} {r : Option Tr} {lb : Option Bool} {CD CT X o dx : Addr} {R : VK} {E : XK} (ho : H o = none) (hdx : H dx = none) (hx : WQ K H x wb) (hy : PO K CT H y r) (hz : LQ K H z lb)
    (q1 : wb = false → Flies E X H x) (q2 : wb = true → r = none → Flies E X H y) (q3 : wb = true → ∀ t, r = some t → lb = none → Flies E X H z) (q : ∀ s t b H', x = .str s → Word s → r = some t → lb = some b → Same H H' → DeedAt K CD CT H' o s t b → R .non H') :
    spDInit K CD CT X [.ref o, x, y, z] (upd (upd H dx (.own o)) o (.ins CD dx [])) R E := by
  have sm : Same H (upd (upd H dx (.own o)) o (.ins CD dx [])) := fun c u hc => by
    rw [upd_ne (ne_of_none hc ho), upd_ne (ne_of_none hc hdx)]
    exact hc
  refine ⟨o, dx, x, y, z, wb, r, lb, rfl, upd_same, WQ.same sm hx, po_same sm hy, LQ.same sm hz, fun e d H1 s1 => q1 e d H1 (sm.trans s1), fun e1 e2 d H1 s1 => q2 e1 e2 d H1 (sm.trans s1), fun e1 t e2 e3 d H1 s1 => q3 e1 t e2 e3 d H1 (sm.trans s1), fun s t b H' e1 e2 e3 e4 but da => ?_⟩
  exact q s t b H' e1 e2 e3 e4 (fun c u hc => but c u (ne_of_none hc ho) (sm c u hc)) da
end
end Z
set_option maxRecDepth 100000
set_option maxHeartbeats 4000000
namespace Z
open PySem PySem.Spec PyProof.Rows L2
section
variable {P : Program} {w : World} {K : PySem.W.Frag} {mg : Str → Option Value} {base : Heap} {a : Ad}
theorem eqB {K : PySem.W.Frag} {H : Hp} {Q : VK} {i j : Bool} (q : Q (.bl (decide (i = j))) H) : rEqX K (.bl i) (.bl j) H Q := ⟨.inl ⟨rfl, by simpa using q⟩⟩
def spDVar (K : PySem.W.Frag) (CD CT : Addr) : Sp := fun vs H Q _ => ∃ p x t b, vs = [.ref p] ∧ DeedAt K CD CT H p x t b ∧ Q (.str x) H
def spDLate (K : PySem.W.Frag) (CD CT : Addr) : Sp := fun vs H Q _ => ∃ p x t b, vs = [.ref p] ∧ DeedAt K CD CT H p x t b ∧ Q (.bl b) H
def spDTerm (K : PySem.W.Frag) (CD CT : Addr) : Sp := fun vs H Q _ => ∃ p x t b, vs = [.ref p] ∧ DeedAt K CD CT H p x t b ∧ ∀ q, TermAt K CT H q t → Q (.ref q) H
def spDStr (K : PySem.W.Frag) (CD CT : Addr) : Sp := fun vs H Q _ => ∃ p x t b, vs = [.ref p] ∧ DeedAt K CD CT H p x t b ∧ Word x ∧ t.deep ≤ 3 ∧ ∀ H', Same H H' → Q (.str (dtext x t b)) H'
def spDEq (K : PySem.W.Frag) (CD CT : Addr) : Sp := fun vs H Q _ => ∃ p x t b y, vs = [.ref p, y] ∧ DeedAt K CD CT H p x t b ∧ ((∃ q x' t' b', y = .ref q ∧ DeedAt K CD CT H q x' t' b' ∧ Q (.bl (decide (x = x') && (decide (b = b') && decide (t = t')))) H) ∨ (∃ z, y = .str z ∧ Q (.bl false) H))
end
end Z
set_option maxRecDepth 100000
set_option maxHeartbeats 4000000
set_option pp.maxSteps 600
namespace Z
open PySem PySem.Spec PyProof.Rows L2
def iLT (K : PySem.W.Frag) (i : Nat) : TI := fun σ H R => iList K (tVar i) σ H R ∨ iTup K (tVar i) σ H R
theorem pi_LT {X : Cx} {K : PySem.W.Frag} {tg e : Expr} {i : Nat} (h : PE X e (tVar i)) (hk : X.K = K := by rfl) : PI X tg e (iLT K i) := by
  subst hk
  have h1 : PI X tg e (iList X.K (tVar i)) := pi_list h
  have h2 : PI X tg e (iTup X.K (tVar i)) := pi_tup h
  exact ⟨fun pins s σ H R I q => q.elim (h1.run pins s σ H R I) (h2.run pins s σ H R I)⟩
theorem isiLT {K : PySem.W.Frag} {x : V} {tp : Addr} {ty : String} {b1 b2 : Bool} {H : Hp} {Q : VK} (h : TyX K H x (.type ty)) (h1 : kitB ty "list" = some b1) (h2 : kitB ty "tuple" = some b2) (ht : H tp = some (.tup [.ty "list", .ty "tuple"])) (q : Q (.bl (b1 || b2)) H) : rIsi K [x, .ref tp] H Q ∨ rIsiT K [x, .ref tp] H Q := by
  refine .inr ⟨x, tp, [.ty "list", .ty "tuple"], .type ty, [.type "list", .type "tuple"], b1 || b2, rfl, ht, .cons (.ty _) (.cons (.ty _) .nil), h, ?_, q⟩
  unfold PySem.W.kitAny
  rw [kit_ty h1]
  cases b1 with
  | true => rfl
  | false =>
    show PySem.W.kitAny K (.type ty) [.type "tuple"] = some (false || b2)
    unfold PySem.W.kitAny
    rw [kit_ty h2]
    cases b2 <;> rfl
theorem k_ll : kitB "list" "list" = some true := by decide +kernel
theorem k_lt : kitB "list" "tuple" = some false := by decide +kernel
theorem k_tl : kitB "tuple" "list" = some false := by decide +kernel
def Seq (K : PySem.W.Frag) (H : Hp) (p : Addr) (xs : List V) : Prop := H p = some (.lst xs) ∨ SqT K H p xs
theorem Seq.same {K : PySem.W.Frag} {H H' : Hp} {p : Addr} {xs : List V} (s : Same H H') (h : Seq K H p xs) : Seq K H' p xs := h.imp (s _ _) (SqT.same s)
theorem Seq.lt {K : PySem.W.Frag} {H : Hp} {p : Addr} {xs : List V} (h : Seq K H p xs) : SqL K H p xs ∨ SqT K H p xs := h.imp (fun h => .inl (.inl h)) id
theorem Seq.ty {K : PySem.W.Frag} {H : Hp} {p : Addr} {xs : List V} (h : Seq K H p xs) : ∃ ty b1 b2, TyX K H (.ref p) (.type ty) ∧ kitB ty "list" = some b1 ∧ kitB ty "tuple" = some b2 ∧ (b1 || b2) = true := by
  rcases h with h | h
  · exact ⟨"list", true, false, .base (.lst h), k_ll, k_lt, rfl⟩
  · exact ⟨"tuple", false, true, tyT h, k_tl, k_tt, rfl⟩
theorem lenLT {K : PySem.W.Frag} {p : Addr} {ys : List V} {H : Hp} {Q : VK} (h : SqL K H p ys ∨ SqT K H p ys) (q : Q (.int ys.length) H) : rLenA K [.ref p] H Q := h.elim (fun h => lenL h q) fun h => lenT h q
theorem mors_nodup_len {κ : Type} [DecidableEq κ] {ks : List κ} : (mors [] ks).length = ks.length ↔ ks.Nodup := by
  have nd : (mors [] ks).Nodup := nodup_mors List.nodup_nil
  have mem : ∀ y, y ∈ mors [] ks ↔ y ∈ ks := fun y => by rw [mem_mors]; simp
  constructor
  · intro h
    exact cover nd (fun y hy => (mem y).mp hy) (Nat.le_of_eq h.symm)
  · intro h
    have h1 := le_cover h (m := mors [] ks) fun y hy => (mem y).mpr hy
    have h2 := le_cover nd (m := ks) fun y hy => (mem y).mp hy
    omega
def wordV : V → Bool
  | .str z => wordB (ls z)
  | _ => false
theorem words_map : ∀ {xs : List V}, xs.all wordV = true → xs = (xs.filterMap strV).map V.str
  | [], _ => rfl
  | v :: xs, h => by
    rw [List.all_cons, Bool.and_eq_true] at h
    have ih := words_map h.2
    cases v <;> first
      | (cases h.1; done)
      | (show _ :: xs = _ :: (xs.filterMap strV).map V.str; rw [← ih])
def unlikeB (lo hi : Int) (xs : List V) : Bool := decide (lo ≤ (xs.length : Int)) && (decide ((xs.length : Int) ≤ hi) && (xs.all wordV && decide ((xs.filterMap strV).Nodup)))
inductive UW (K : PySem.W.Frag) (H : Hp) (lo hi : Int) : V → Bool → Prop
  | seq {p : Addr} {xs : List V} (h : Seq K H p xs) (ws : ∀ y ∈ xs, WQ K H y (wordV y)) (few : xs.length ≤ 100) : UW K H lo hi (.ref p) (unlikeB lo hi xs)
  | oth {x : V} {ty : String} (h : TyX K H x (.type ty)) (k1 : kitB ty "list" = some false) (k2 : kitB ty "tuple" = some false) : UW K H lo hi x false
theorem UW.same {K : PySem.W.Frag} {H H' : Hp} {lo hi : Int} {x : V} {b : Bool} (s : Same H H') (h : UW K H lo hi x b) : UW K H' lo hi x b := by
  cases h with
  | seq h ws few => exact .seq (h.same s) (fun y hy => (ws y hy).same s) few
  | oth h k1 k2 => exact .oth (tyX_same s h) k1 k2
section
variable {P : Program} {w : World} {K : PySem.W.Frag} {mg : Str → Option Value} {base : Heap} {a : Ad}
def spUnlike (K : PySem.W.Frag) : Sp := fun vs H Q _ => ∃ (x : V) (lo hi : Int) (b : Bool), vs = [x, .int lo, .int hi] ∧ UW K H lo hi x b ∧ ∀ H', Same H H' → Q (.bl b) H'
end
end Z
set_option maxRecDepth 100000
set_option maxHeartbeats 4000000
set_option pp.maxSteps 600
namespace Z
open PySem PySem.Spec PyProof.Rows L2
theorem _root_.L2.Same.non {H H' : Hp} {D : Addr} (s : Same H H') (n : H' D = none) : H D = none := by
  cases e : H D with
  | none => rfl
  | some o =>
    have := s D o e
    rw [n] at this
    cases this
abbrev DD := Str × Tr × Bool
def DeedsAt (K : PySem.W.Frag) (CD CT : Addr) (H : Hp) (qs : List Addr) (ds : List DD) : Prop := qs.length = ds.length ∧ ∀ (j : Nat) (q : Addr) (d : DD), qs[j]? = some q → ds[j]? = some d → DeedAt K CD CT H q d.1 d.2.1 d.2.2
theorem DeedsAt.same {K : PySem.W.Frag} {CD CT : Addr} {H H' : Hp} {qs : List Addr} {ds : List DD} (s : Same H H') (h : DeedsAt K CD CT H qs ds) : DeedsAt K CD CT H' qs ds := ⟨h.1, fun j q d h1 h2 => (h.2 j q d h1 h2).same s⟩
theorem DeedsAt.nil {K : PySem.W.Frag} {CD CT : Addr} {H : Hp} : DeedsAt K CD CT H [] [] := ⟨rfl, fun j q d h _ => by simp at h⟩
theorem DeedsAt.snoc {K : PySem.W.Frag} {CD CT : Addr} {H : Hp} {qs : List Addr} {ds : List DD} {q : Addr} {d : DD} (h : DeedsAt K CD CT H qs ds) (k : DeedAt K CD CT H q d.1 d.2.1 d.2.2) : DeedsAt K CD CT H (qs ++ [q]) (ds ++ [d]) := by
  refine ⟨by rw [List.length_append, List.length_append, h.1]; rfl, fun j p f h1 h2 => ?_⟩
  by_cases hj : j < qs.length
  · rw [List.getElem?_append_left hj] at h1
    rw [List.getElem?_append_left (by rw [← h.1]; exact hj)] at h2
    exact h.2 j p f h1 h2
  · have : j = qs.length := by
      have := (List.getElem?_eq_some_iff.mp h1).1
      rw [List.length_append, List.length_singleton] at this
      omega
    subst this
    rw [List.getElem?_append_right (Nat.le_refl _), Nat.sub_self] at h1
    rw [List.getElem?_append_right (by rw [h.1]; exact Nat.le_refl _), h.1, Nat.sub_self] at h2
    cases h1
    cases h2
    exact k
theorem DeedsAt.kept {K : PySem.W.Frag} {CD CT : Addr} {H H' : Hp} {qs : List Addr} {ds : List DD} (k : ∀ c C dx fs, H c = some (.ins C dx fs) → C = CD ∨ C = CT → H' c = some (.ins C dx fs)) (tk : TK H H') (h : DeedsAt K CD CT H qs ds) : DeedsAt K CD CT H' qs ds :=
  ⟨h.1, fun j q d h1 h2 => by
    obtain ⟨dx, p, g1, d', u, g2, g3, g4⟩ := h.2 j q d h1 h2
    exact ⟨dx, p, k _ _ _ _ g1 (.inl rfl), d', u, k _ _ _ _ g2 (.inr rfl), tr_tk tk _ g3, g4⟩⟩
inductive IQ (K : PySem.W.Frag) (CD CT : Addr) (H : Hp) : V → Option DD → Prop
  | own {q : Addr} {s : Str} {t : Tr} {b : Bool} (h : DeedAt K CD CT H q s t b) : IQ K CD CT H (.ref q) (some (s, t, b))
  | txt (z : Str) (h : z.length + 2 ≤ sizeLine) : IQ K CD CT H (.str z) (dparts z)
  | oth {x : V} {ty : String} (h : TyX K H x (.type ty)) (k1 : kitB ty "str" = some false) (k2 : PySem.W.kitOne K (.type ty) (.ref CD) = some false) : IQ K CD CT H x none
theorem IQ.same {K : PySem.W.Frag} {CD CT : Addr} {H H' : Hp} {x : V} {o : Option DD} (s : Same H H') (h : IQ K CD CT H x o) : IQ K CD CT H' x o := by
  cases h with
  | own h => exact .own (h.same s)
  | txt z h => exact .txt z h
  | oth h k1 k2 => exact .oth (tyX_same s h) k1 k2
def allS (os : Nat → Option DD) : Nat → Option (List DD)
  | 0 => some []
  | n + 1 => match allS os n, os n with
    | some l, some d => some (l ++ [d])
    | _, _ => none
theorem allS_none {os : Nat → Option DD} {n : Nat} (h : allS os n = none) : ∀ m, allS os (n + m) = none
  | 0 => h
  | m + 1 => by
    show (match allS os (n + m), os (n + m) with | some l, some d => some (l ++ [d]) | _, _ => none) = none
    rw [allS_none h m]
theorem allS_len {os : Nat → Option DD} : ∀ {n : Nat} {l : List DD}, allS os n = some l → l.length = n
  | 0, l, h => by cases h; rfl
  | n + 1, l, h => by
    unfold allS at h
    split at h
    · rename_i m d e1 e2
      cases h
      rw [List.length_append, allS_len e1]
      rfl
    · cases h
inductive DQ (K : PySem.W.Frag) (CD CT : Addr) (H : Hp) : V → Option (List DD) → Prop
  | seq {p : Addr} {xs : List V} (h : Seq K H p xs) (os : Nat → Option DD) (it : ∀ (i : Nat) (x : V), xs[i]? = some x → IQ K CD CT H x (os i)) : DQ K CD CT H (.ref p) (if 1 ≤ xs.length ∧ xs.length ≤ 4 then allS os xs.length else none)
  | oth {x : V} {ty : String} (h : TyX K H x (.type ty)) (k1 : kitB ty "list" = some false) (k2 : kitB ty "tuple" = some false) : DQ K CD CT H x none
theorem DQ.same {K : PySem.W.Frag} {CD CT : Addr} {H H' : Hp} {x : V} {r : Option (List DD)} (s : Same H H') (h : DQ K CD CT H x r) : DQ K CD CT H' x r := by
  cases h with
  | seq h os it => exact .seq (h.same s) os fun i x hx => (it i x hx).same s
  | oth h k1 k2 => exact .oth (tyX_same s h) k1 k2
section
variable {P : Program} {w : World} {K : PySem.W.Frag} {mg : Str → Option Value} {base : Heap} {a : Ad}
def spDeedsOf (K : PySem.W.Frag) (CD CT : Addr) : Sp := fun vs H Q _ => ∃ (x : V) (r : Option (List DD)), vs = [x] ∧ DQ K CD CT H x r ∧ (r = none → ∀ H', Same H H' → Q .non H') ∧
  ∀ ds, r = some ds → ∀ L qs H', H L = none → Same H H' → H' L = some (.lst (qs.map V.ref)) → DeedsAt K CD CT H' qs ds → 1 ≤ ds.length → ds.length ≤ 4 → Q (.ref L) H'
end
end Z
set_option maxRecDepth 100000
set_option maxHeartbeats 4000000
set_option pp.maxSteps 600
namespace Z
open PySem PySem.Spec PyProof.Rows L2
def FliesF (E : XK) (X : Addr) (f : Str) (H : Hp) (v : V) : Prop := ∀ d H1, Same H H1 → H1 d = none → E (.ref X) (some d) (upd H1 d (.xd [(f, v)]))
def pflds (s : Str) (pw pd : Addr) : List (Str × V) := [("title", .str s), ("waited", .ref pw), ("done", .ref pd)]
def ProcAt (K : PySem.W.Frag) (CP CD CT : Addr) (H : Hp) (p : Addr) (s : Str) (wl : List Str) (dl : List DD) : Prop := ∃ dx pw pd qs, H p = some (.ins CP dx (pflds s pw pd)) ∧ H pw = some (.lst (wl.map V.str)) ∧ H pd = some (.lst (qs.map V.ref)) ∧ DeedsAt K CD CT H qs dl
theorem Seq.ins {K : PySem.W.Frag} {H H' : Hp} {p q C : Addr} {dx : Addr} {fs : List (Str × V)} {xs : List V} (h : H p = some (.ins C dx fs)) (b : But p H H') (s : Seq K H q xs) : Seq K H' q xs := by
  rcases s with s | (s | ⟨o, s⟩) | s
  · exact .inl (b _ _ (ne_of s h (by intro z; cases z)) s)
  · exact .inr (.inl (.inl (b _ _ (ne_of s h (by intro z; cases z)) s)))
  · exact .inr (.inl (.inr ⟨o, b _ _ (ne_of s h (by intro z; cases z)) s⟩))
  · exact .inr (.inr s)
theorem tkBut {H H' : Hp} {p C : Addr} {dx : Addr} {fs : List (Str × V)} (h : H p = some (.ins C dx fs)) (b : But p H H') : TK H H' :=
  ⟨fun c ys e => b c _ (ne_of e h (by intro z; cases z)) e, fun c o u e => b c _ (ne_of e h (by intro z; cases z)) e⟩
theorem DeedsAt.but {K : PySem.W.Frag} {CD CT : Addr} {H H' : Hp} {p C : Addr} {dx : Addr} {qs : List Addr} {ds : List DD} (h : H p = some (.ins C dx [])) (b : But p H H') (dd : DeedsAt K CD CT H qs ds) : DeedsAt K CD CT H' qs ds :=
  ⟨dd.1, fun j q d h1 h2 => by
    obtain ⟨dx', p', g1, d', u, g2, g3, g4⟩ := dd.2 j q d h1 h2
    exact ⟨dx', p', b _ _ (ne_of g1 h (by intro z; cases z)) g1, d', u, b _ _ (ne_of g2 h (by intro z; cases z)) g2, tr_tk (tkBut h b) _ g3, g4⟩⟩
theorem ProcAt.same {K : PySem.W.Frag} {CP CD CT : Addr} {H H' : Hp} {p : Addr} {s : Str} {wl : List Str} {dl : List DD} (e : Same H H') (h : ProcAt K CP CD CT H p s wl dl) : ProcAt K CP CD CT H' p s wl dl := by
  obtain ⟨dx, pw, pd, qs, h1, h2, h3, h4⟩ := h
  exact ⟨dx, pw, pd, qs, e _ _ h1, e _ _ h2, e _ _ h3, h4.same e⟩
theorem turn_ls : ls ("turn" : Str) = [116, 117, 114, 110] := by decide +kernel
def ProcIn (G : Hp) (K : PySem.W.Frag) (CP CD CT : Addr) (H : Hp) (p : Addr) (s : Str) (wl : List Str) (dl : List DD) : Prop := ∃ dx pw pd qs, H p = some (.ins CP dx (pflds s pw pd)) ∧ H pw = some (.lst (wl.map V.str)) ∧ H pd = some (.lst (qs.map V.ref)) ∧ DeedsAt K CD CT H qs dl ∧ G pw = none ∧ G pd = none
theorem ProcIn.at {G : Hp} {K : PySem.W.Frag} {CP CD CT : Addr} {H : Hp} {p : Addr} {s : Str} {wl : List Str} {dl : List DD} (h : ProcIn G K CP CD CT H p s wl dl) : ProcAt K CP CD CT H p s wl dl := by
  obtain ⟨dx, pw, pd, qs, h1, h2, h3, h4, _⟩ := h
  exact ⟨dx, pw, pd, qs, h1, h2, h3, h4⟩
theorem ProcIn.same {G : Hp} {K : PySem.W.Frag} {CP CD CT : Addr} {H H' : Hp} {p : Addr} {s : Str} {wl : List Str} {dl : List DD} (e : Same H H') (h : ProcIn G K CP CD CT H p s wl dl) : ProcIn G K CP CD CT H' p s wl dl := by
  obtain ⟨dx, pw, pd, qs, h1, h2, h3, h4, h5⟩ := h
  exact ⟨dx, pw, pd, qs, e _ _ h1, e _ _ h2, e _ _ h3, h4.same e, h5⟩
theorem ProcIn.lst {G : Hp} {K : PySem.W.Frag} {CP CD CT : Addr} {H : Hp} {p l : Addr} {s : Str} {wl : List Str} {dl : List DD} {o : HO} {xs ys : List V} (g : G l = some o) (hl : H l = some (.lst xs)) (h : ProcIn G K CP CD CT H p s wl dl) : ProcIn G K CP CD CT (upd H l (.lst ys)) p s wl dl := by
  obtain ⟨dx, pw, pd, qs, h1, h2, h3, h4, h5, h6⟩ := h
  exact ⟨dx, pw, pd, qs, by rw [upd_ne (ne_of h1 hl (by intro z; cases z))]; exact h1, by rw [upd_ne (ne_of_none g h5).symm]; exact h2, by rw [upd_ne (ne_of_none g h6).symm]; exact h3, h4.kept (fun c C dx fs h _ => by rw [upd_ne (ne_of h hl (by intro z; cases z))]; exact h) (TK.lst hl), h5, h6⟩
def nameB : V → Bool
  | .str z => wordB (ls z) && !decide (z = ("turn" : Str))
  | _ => false
theorem unlike_true {lo hi : Int} {xs : List V} (h : unlikeB lo hi xs = true) : xs = (xs.filterMap strV).map V.str ∧ (xs.filterMap strV).Nodup ∧ (∀ z ∈ xs.filterMap strV, Word z) ∧ lo ≤ (xs.length : Int) ∧ (xs.length : Int) ≤ hi := by
  unfold unlikeB at h
  simp only [Bool.and_eq_true, decide_eq_true_eq] at h
  obtain ⟨h1, h2, h3, h4⟩ := h
  refine ⟨words_map h3, h4, fun z hz => ?_, h1, h2⟩
  obtain ⟨v, hv, e⟩ := List.mem_filterMap.mp hz
  have := List.all_eq_true.mp h3 v hv
  cases v <;> first
    | (cases e; exact wordB_iff.mp this)
    | cases e
inductive UWL (K : PySem.W.Frag) (H : Hp) : V → Bool → List Str → Prop
  | seq {p : Addr} {xs : List V} (h : Seq K H p xs) (ws : ∀ y ∈ xs, WQ K H y (wordV y)) (few : xs.length ≤ 100) : UWL K H (.ref p) (unlikeB 1 4 xs) (xs.filterMap strV)
  | oth {x : V} {ty : String} (h : TyX K H x (.type ty)) (k1 : kitB ty "list" = some false) (k2 : kitB ty "tuple" = some false) : UWL K H x false []
theorem UWL.same {K : PySem.W.Frag} {H H' : Hp} {x : V} {b : Bool} {l : List Str} (s : Same H H') (h : UWL K H x b l) : UWL K H' x b l := by
  cases h with
  | seq h ws few => exact .seq (h.same s) (fun y hy => (ws y hy).same s) few
  | oth h k1 k2 => exact .oth (tyX_same s h) k1 k2
theorem UWL.uw {K : PySem.W.Frag} {H : Hp} {x : V} {b : Bool} {l : List Str} (h : UWL K H x b l) : UW K H 1 4 x b := by
  cases h with
  | seq h ws few => exact .seq h ws few
  | oth h k1 k2 => exact .oth h k1 k2
section
variable {P : Program} {w : World} {K : PySem.W.Frag} {mg : Str → Option Value} {base : Heap} {a : Ad}
def spPInit (K : PySem.W.Frag) (CP CD CT X : Addr) : Sp := fun vs H Q E => ∃ (p dx : Addr) (n ws ds : V) (uw : Bool) (wl : List Str) (r : Option (List DD)), vs = [.ref p, n, ws, ds] ∧ H p = some (.ins CP dx []) ∧ WQ K H n (wordV n) ∧ UWL K H ws uw wl ∧ DQ K CD CT H ds r ∧
  (nameB n = false → FliesF E X "part" H (.str "name")) ∧ (nameB n = true → uw = false → FliesF E X "part" H (.str "waits")) ∧ (nameB n = true → uw = true → r = none → FliesF E X "part" H (.str "deeds")) ∧
  (∀ s dl H', n = .str s → nameB n = true → uw = true → r = some dl → 1 ≤ dl.length → dl.length ≤ 4 → But p H H' → ProcIn H K CP CD CT H' p s wl dl → Q .non H')
end
end Z
set_option maxRecDepth 100000
set_option maxHeartbeats 4000000
set_option pp.maxSteps 600
namespace Z
open PySem PySem.Spec PyProof.Rows L2
section
variable {P : Program} {w : World} {K : PySem.W.Frag} {mg : Str → Option Value} {base : Heap} {a : Ad}
def spPName (K : PySem.W.Frag) (CP CD CT : Addr) : Sp := fun vs H Q _ => ∃ p s wl dl, vs = [.ref p] ∧ ProcAt K CP CD CT H p s wl dl ∧ Q (.str s) H
theorem cons_erase {α : Type} : ∀ {l : List α} (i : Nat) (h : i < l.length), (l[i] :: l.eraseIdx i).Perm l
  | y :: r, 0, h => List.Perm.refl _
  | y :: r, i + 1, h => by
    have := cons_erase (l := r) i (Nat.lt_of_succ_lt_succ h)
    exact (List.Perm.swap y (r[i]'(Nat.lt_of_succ_lt_succ h)) (r.eraseIdx i)).trans (List.Perm.cons y this)
def spTurned (K : PySem.W.Frag) : Sp := fun vs H Q _ => ∃ (l pt : Addr) (xs : List V), vs = [.ref l, .ref pt] ∧ PoolAt H l ∧ pt ≠ l ∧ SqL K H pt xs ∧ xs.length < 1000 ∧
  ∀ p ys H', But l H H' → PoolAt H' l → H p = none → H' p = some (.lst ys) → ys.Perm xs → Q (.ref p) H'
end
end Z
set_option maxRecDepth 100000
set_option maxHeartbeats 4000000
set_option pp.maxSteps 600
namespace Z
open PySem PySem.Spec PyProof.Rows L2
inductive All2 {α β : Type} (R : α → β → Prop) : List α → List β → Prop
  | nil : All2 R [] []
  | cons {x : α} {y : β} {xs : List α} {ys : List β} (h : R x y) (t : All2 R xs ys) : All2 R (x :: xs) (y :: ys)
namespace All2
variable {α β : Type} {R S : α → β → Prop}
theorem length {xs : List α} {ys : List β} (h : All2 R xs ys) : xs.length = ys.length := by
  induction h with
  | nil => rfl
  | cons h t ih => rw [List.length_cons, List.length_cons, ih]
theorem imp {xs : List α} {ys : List β} (f : ∀ x y, R x y → S x y) (h : All2 R xs ys) : All2 S xs ys := by
  induction h with
  | nil => exact .nil
  | cons h t ih => exact .cons (f _ _ h) ih
theorem app {xs us : List α} {ys vs : List β} (h : All2 R xs ys) (g : All2 R us vs) : All2 R (xs ++ us) (ys ++ vs) := by
  induction h with
  | nil => exact g
  | cons h t ih => exact .cons h ih
theorem snoc {xs : List α} {ys : List β} {x : α} {y : β} (h : All2 R xs ys) (g : R x y) : All2 R (xs ++ [x]) (ys ++ [y]) := h.app (.cons g .nil)
theorem get {xs : List α} {ys : List β} (h : All2 R xs ys) : ∀ {i : Nat} {x : α}, xs[i]? = some x → ∃ y, ys[i]? = some y ∧ R x y := by
  induction h with
  | nil => intro i x e; simp at e
  | cons h t ih =>
    intro i x e
    cases i with
    | zero => cases e; exact ⟨_, rfl, h⟩
    | succ i => exact ih e
theorem get' {xs : List α} {ys : List β} (h : All2 R xs ys) : ∀ {i : Nat} {y : β}, ys[i]? = some y → ∃ x, xs[i]? = some x ∧ R x y := by
  induction h with
  | nil => intro i x e; simp at e
  | cons h t ih =>
    intro i x e
    cases i with
    | zero => cases e; exact ⟨_, rfl, h⟩
    | succ i => exact ih e
theorem take {xs : List α} {ys : List β} (h : All2 R xs ys) : ∀ n, All2 R (xs.take n) (ys.take n) := by
  induction h with
  | nil => intro n; rw [List.take_nil, List.take_nil]; exact .nil
  | cons h t ih =>
    intro n
    cases n with
    | zero => exact .nil
    | succ n => exact .cons h (ih n)
theorem step {xs : List α} {ys : List β} {n : Nat} {x : α} {y : β} (hx : xs[n]? = some x) (hy : ys[n]? = some y) : xs.take (n + 1) = xs.take n ++ [x] ∧ ys.take (n + 1) = ys.take n ++ [y] := by
  rw [List.take_succ, hx, List.take_succ, hy]
  exact ⟨rfl, rfl⟩
end All2
def DTup (K : PySem.W.Frag) (H : Hp) (v : V) (d : DD) : Prop := ∃ p u, v = .ref p ∧ H p = some (.tup [.str d.1, .bl d.2.2, u]) ∧ Dp K H u d.2.1.d
theorem DTup.tk {K : PySem.W.Frag} {H H' : Hp} {v : V} {d : DD} (k : TK H H') (h : DTup K H v d) : DTup K H' v d := by
  obtain ⟨p, u, rfl, h1, h2⟩ := h
  exact ⟨p, u, rfl, k.tup _ _ h1, tr_tk k _ h2⟩
abbrev DTups (K : PySem.W.Frag) (H : Hp) : List V → List DD → Prop := All2 (DTup K H)
theorem DTups.tk {K : PySem.W.Frag} {H H' : Hp} {vs : List V} {ds : List DD} (k : TK H H') (h : DTups K H vs ds) : DTups K H' vs ds := h.imp fun _ _ h => h.tk k
def DOk (wr ws : List Str) (dg : List Int) (n : Nat) (d : DD) : Prop := d.1 ∈ wr ∧ d.2.1.Ok ∧ d.2.1.deep ≤ n ∧ d.2.1.Of ws dg
theorem PoolAt.tk {l : Addr} {H H' : Hp} (b : But l H H') (h : PoolAt H l) : TK H H' := by
  obtain ⟨p, q, h1, _⟩ := h
  exact b.tk h1
section
variable {P : Program} {w : World} {K : PySem.W.Frag} {mg : Str → Option Value} {base : Heap} {a : Ad}
def spDeedsDrawn (K : PySem.W.Frag) (n : Nat) : Sp := fun vs H Q _ => ∃ (l pwr pws pd : Addr) (wr ws : List Str) (dg : List Int) (md : Nat), vs = [.ref l, .ref pwr, .ref pws, .ref pd, .int (md : Nat), .int (n : Nat)] ∧ PoolAt H l ∧ pwr ≠ l ∧ pws ≠ l ∧ pd ≠ l ∧
  H pwr = some (.lst (wr.map V.str)) ∧ H pws = some (.lst (ws.map V.str)) ∧ H pd = some (.lst (dg.map V.int)) ∧ wr ≠ [] ∧ wr.length < 1000 ∧ ws ≠ [] ∧ ws.length < 1000 ∧ dg.length < 1000 ∧ (∀ y ∈ ws, Word y) ∧ (∀ y ∈ dg, 0 ≤ y ∧ y ≤ 9) ∧ 1 ≤ n ∧ 1 ≤ md ∧ md ≤ 100 ∧
  ∀ p us ds H', But l H H' → PoolAt H' l → H p = none → H' p = some (.lst us) → DTups K H' us ds → 1 ≤ ds.length → ds.length ≤ md → (∀ d ∈ ds, DOk wr ws dg n d) → Q (.ref p) H'
end
end Z
set_option maxRecDepth 100000
set_option maxHeartbeats 4000000
set_option pp.maxSteps 600
namespace Z
open PySem PySem.Spec PyProof.Rows L2
abbrev Ent := Str × List Str × List DD
def EntTup (N : Addr → Prop) (K : PySem.W.Frag) (H : Hp) (v : V) (e : Ent) : Prop := ∃ p wl dl us, v = .ref p ∧ H p = some (.tup [.str e.1, .ref wl, .ref dl]) ∧ H wl = some (.lst (e.2.1.map V.str)) ∧ H dl = some (.lst us) ∧ DTups K H us e.2.2 ∧ N wl ∧ N dl
theorem EntTup.to {N : Addr → Prop} {K : PySem.W.Frag} {H H' : Hp} {v : V} {e : Ent} (tk : TK H H') (k : ∀ x o, N x → H x = some o → H' x = some o) (h : EntTup N K H v e) : EntTup N K H' v e := by
  obtain ⟨p, wl, dl, us, rfl, h1, h2, h3, h4, h5, h6⟩ := h
  exact ⟨p, wl, dl, us, rfl, tk.tup _ _ h1, k _ _ h5 h2, k _ _ h6 h3, h4.tk tk, h5, h6⟩
theorem EntTup.same {N : Addr → Prop} {K : PySem.W.Frag} {H H' : Hp} {v : V} {e : Ent} (s : Same H H') (h : EntTup N K H v e) : EntTup N K H' v e := h.to (TK.of s) fun x o _ => s x o
theorem EntTup.imp {N M : Addr → Prop} {K : PySem.W.Frag} {H : Hp} {v : V} {e : Ent} (f : ∀ x, N x → M x) (h : EntTup N K H v e) : EntTup M K H v e := by
  obtain ⟨p, wl, dl, us, rfl, h1, h2, h3, h4, h5, h6⟩ := h
  exact ⟨p, wl, dl, us, rfl, h1, h2, h3, h4, f _ h5, f _ h6⟩
theorem EntTup.impH {N M : Addr → Prop} {K : PySem.W.Frag} {H : Hp} {v : V} {e : Ent} (f : ∀ x o, N x → H x = some o → M x) (h : EntTup N K H v e) : EntTup M K H v e := by
  obtain ⟨p, wl, dl, us, rfl, h1, h2, h3, h4, h5, h6⟩ := h
  exact ⟨p, wl, dl, us, rfl, h1, h2, h3, h4, f _ _ h5 h2, f _ _ h6 h3⟩
abbrev EntTups (N : Addr → Prop) (K : PySem.W.Frag) (H : Hp) : List V → List Ent → Prop := All2 (EntTup N K H)
theorem EntTups.to {N : Addr → Prop} {K : PySem.W.Frag} {H H' : Hp} {vs : List V} {es : List Ent} (tk : TK H H') (k : ∀ x o, N x → H x = some o → H' x = some o) (h : EntTups N K H vs es) : EntTups N K H' vs es := h.imp fun _ _ h => h.to tk k
theorem EntTups.same {N : Addr → Prop} {K : PySem.W.Frag} {H H' : Hp} {vs : List V} {es : List Ent} (s : Same H H') (h : EntTups N K H vs es) : EntTups N K H' vs es := h.imp fun _ _ h => h.same s
def lessStep (s : Int × List DD) (d : DD) : Int × List DD := (s.1 - (if !d.2.2 then 1 else 0), s.2 ++ [(d.1, d.2.1, d.2.2 || decide (s.1 - (if !d.2.2 then 1 else 0) < 0))])
def lessEnt (s : Int × List Ent) (e : Ent) : Int × List Ent := ((e.2.2.foldl lessStep (s.1, [])).1, s.2 ++ [(e.1, e.2.1, (e.2.2.foldl lessStep (s.1, [])).2)])
def lessOnce (es : List Ent) : List Ent := (es.foldl lessEnt (8, [])).2
theorem fold_step {α β : Type} (f : β → α → β) (b : β) {xs : List α} {n : Nat} {x : α} (h : xs[n]? = some x) : (xs.take (n + 1)).foldl f b = f ((xs.take n).foldl f b) x := by
  rw [List.take_succ, h, List.foldl_append]
  rfl
theorem _root_.L2.Room.un1 {k : Nat} {A : Around} (h : Room k A) : A.units + 1 < cLine := by have := h.un; omega
def dictPI (pp vi : V) : List (Key × V) := [(.inr "processes", pp), (.inr "inputs", vi)]
theorem valPI1 {pp vi : V} : valV (dictPI pp vi) (.inr "processes") = some pp := valV_pos rfl
theorem valPI2 {pp vi : V} : valV (dictPI pp vi) (.inr "inputs") = some vi := (valV_neg (show ¬ (Sum.inr "processes" : Key) = .inr "inputs" by decide)).trans (valV_pos rfl)
theorem mergePI {pp vi : V} : mergeK [] (dictPI pp vi) = dictPI pp vi := rfl
section
variable {P : Program} {w : World} {K : PySem.W.Frag} {mg : Str → Option Value} {base : Heap} {a : Ad}
def spLess (K : PySem.W.Frag) : Sp := fun vs H Q _ => ∃ (d pp : Addr) (vi : V) (us : List V) (es : List Ent) (N : Addr → Prop), vs = [.ref d] ∧ H d = some (.dK (dictPI (.ref pp) vi)) ∧ H pp = some (.lst us) ∧ EntTups N K H us es ∧ us.length ≤ 100 ∧ (∀ e ∈ es, e.2.2.length ≤ 100) ∧
  ∀ d' F us' H', Same H H' → H d' = none → H F = none → H' d' = some (.dK (dictPI (.ref F) vi)) → H' F = some (.lst us') → EntTups (fun x => N x ∨ H x = none) K H' us' (lessOnce es) → Q (.ref d') H'
end
end Z
set_option maxRecDepth 100000
set_option maxHeartbeats 4000000
set_option pp.maxSteps 600
namespace Z
open PySem PySem.Spec PyProof.Rows L2
theorem cutV_hi {xs : List V} {j : Nat} : cutV xs none (some (j : Int)) = xs.take j := by
  unfold cutV
  rw [HT.sIx_none, HT.sIx_nat, List.drop_zero, Nat.sub_zero]
  by_cases h : j ≤ xs.length
  · rw [Nat.min_eq_left h]
  · rw [Nat.min_eq_right (by omega), List.take_length, List.take_of_length_le (by omega)]
theorem cutV_lo {xs : List V} {j : Nat} : cutV xs (some (j : Int)) none = xs.drop j := by
  unfold cutV
  rw [HT.sIx_none, HT.sIx_nat]
  by_cases h : j ≤ xs.length
  · rw [Nat.min_eq_left h, List.take_of_length_le (by rw [List.length_drop]; omega)]
  · rw [Nat.min_eq_right (by omega), List.drop_length, List.drop_of_length_le (by omega), List.take_nil]
def dgMenu : List (List Int) := [[], [0], [1], [0, 1], [2, 7]]
def ttMenu : List (List Str) := [["p", "q", "r", "s", "t"], ["t", "s", "r", "q", "p"]]
def EOk (wr ws : List Str) (dg : List Int) (md n : Nat) (e : Ent) : Prop := e.2.1.Nodup ∧ (∀ y ∈ e.2.1, y ∈ ws) ∧ 1 ≤ e.2.1.length ∧ e.2.1.length ≤ 2 ∧ 1 ≤ e.2.2.length ∧ e.2.2.length ≤ md ∧ ∀ d ∈ e.2.2, DOk wr ws dg n d
def PlainFine (mp md n : Nat) (es : List Ent) (ins : List Str) : Prop := ∃ (ws : List Str) (j : Nat) (dg : List Int) (tt : List Str) (e0 : List Ent), ws.Nodup ∧ (∀ y ∈ ws, Short y) ∧ 3 ≤ ws.length ∧ ws.length ≤ 4 ∧ 1 ≤ j ∧ j + 2 ≤ ws.length ∧ ins = ws.take j ∧ dg ∈ dgMenu ∧ tt ∈ ttMenu ∧
  es = lessOnce e0 ∧ 1 ≤ e0.length ∧ e0.length ≤ mp ∧ e0.map (·.1) = tt.take e0.length ∧ ∀ e ∈ e0, EOk (ws.drop j) ws dg md n e
theorem dg_small {dg : List Int} (h : dg ∈ dgMenu) : (∀ y ∈ dg, 0 ≤ y ∧ y ≤ 9) ∧ dg.length < 1000 := by
  simp only [dgMenu, List.mem_cons, List.not_mem_nil, or_false] at h
  rcases h with rfl | rfl | rfl | rfl | rfl <;> decide
section
variable {P : Program} {w : World} {K : PySem.W.Frag} {mg : Str → Option Value} {base : Heap} {a : Ad}
def tTaken (K : PySem.W.Frag) : TE := tOp (rAddA K) (tC (.int 1)) (tCB rIntA (tCons (tAndV (tOp (rI0 fun i j => .bl (decide (j < i))) (tCB (rLenA K) (tCons (tVar 4) tNil)) (tC (.int 3))) (tOp (rEqX K) (tCall spTake [] E0 (tCons (tVar 0) (tCons (tC (.int 3)) tNil))) (tC (.int 0)))) tNil))
theorem taken_it {l W : Addr} {σ : L2.St} {H : Hp} {Q : VK} {ws : List Str} (h0 : σ[0]? = some (some (.ref l))) (h4 : σ[4]? = some (some (.ref W))) (hW : H W = some (.lst (ws.map V.str))) (hP : PoolAt H l) (l3 : 3 ≤ ws.length) (l4 : ws.length ≤ 4)
    (q : ∀ (j : Nat) H', But l H H' → PoolAt H' l → 1 ≤ j → j + 2 ≤ ws.length → Q (.int (j : Nat)) H') : tTaken K σ H Q := by
  refine ⟨_, h4, lenL (.inl (.inl hW)) ?_⟩
  refine ⟨_, _, rfl, rfl, ?_⟩
  refine ⟨_, rfl, ?_⟩
  rw [List.length_map]
  by_cases h : (3 : Int) < (ws.length : Int)
  · rw [decide_eq_true h]
    refine ⟨_, h0, l, 3, rfl, hP, by decide, by decide, fun r H1 b1 P1 r0 r1 => eqI ?_⟩
    by_cases hr : r = 0
    · rw [decide_eq_true hr]
      exact intB (addI (q 2 H1 b1 P1 (by decide) (by omega)))
    · rw [decide_eq_false hr]
      exact intB (addI (q 1 H1 b1 P1 (by decide) (by omega)))
  · rw [decide_eq_false h]
    exact intB (addI (q 1 H (But.refl _ _) hP (by decide) (by omega)))
theorem tt_item {H : Hp} {p1 p2 : Addr} {i : Nat} {y : V} (hy : [V.ref p1, .ref p2][i]? = some y) (h1 : H p1 = some (.lst [.str "p", .str "q", .str "r", .str "s", .str "t"])) (h2 : H p2 = some (.lst [.str "t", .str "s", .str "r", .str "q", .str "p"])) :
    ∃ (pd : Addr) (tt : List Str), y = .ref pd ∧ tt ∈ ttMenu ∧ H pd = some (.lst (tt.map V.str)) ∧ (pd = p1 ∨ pd = p2) := by
  have hm := List.mem_of_getElem? hy
  simp only [List.mem_cons, List.not_mem_nil, or_false] at hm
  rcases hm with rfl | rfl
  · exact ⟨_, ["p", "q", "r", "s", "t"], rfl, by unfold ttMenu; simp, h1, by simp⟩
  · exact ⟨_, ["t", "s", "r", "q", "p"], rfl, by unfold ttMenu; simp, h2, by simp⟩
theorem tt_len {tt : List Str} (h : tt ∈ ttMenu) : tt.length = 5 := by
  simp only [ttMenu, List.mem_cons, List.not_mem_nil, or_false] at h
  rcases h with rfl | rfl <;> rfl
theorem sv_str : ∀ ws : List Str, (ws.map V.str).filterMap strV = ws
  | [] => rfl
  | w :: r => by
    show w :: (r.map V.str).filterMap strV = _
    rw [sv_str r]
theorem strs_map : ∀ {ys : List V}, (∀ y ∈ ys, ∃ z : Str, y = .str z) → ys = (ys.filterMap strV).map V.str
  | [], _ => rfl
  | y :: r, h => by
    obtain ⟨z, rfl⟩ := h y List.mem_cons_self
    show _ = V.str z :: (r.filterMap strV).map V.str
    rw [← strs_map fun y hy => h y (List.mem_cons_of_mem _ hy)]
theorem perm_strs {ys : List V} {ws : List Str} (h : ys.Perm (ws.map V.str)) : ∃ zs : List Str, ys = zs.map V.str ∧ zs.Perm ws := by
  refine ⟨ys.filterMap strV, strs_map fun y hy => ?_, ?_⟩
  · obtain ⟨z, _, e⟩ := List.mem_map.mp (h.mem_iff.mp hy)
    exact ⟨z, e.symm⟩
  · have := h.filterMap strV
    rwa [sv_str] at this
theorem dg_item {H : Hp} {p1 p2 p3 p4 p5 : Addr} {i : Nat} {y : V} (hy : [V.ref p1, .ref p2, .ref p3, .ref p4, .ref p5][i]? = some y) (h1 : H p1 = some (.lst [])) (h2 : H p2 = some (.lst [.int 0])) (h3 : H p3 = some (.lst [.int 1])) (h4 : H p4 = some (.lst [.int 0, .int 1])) (h5 : H p5 = some (.lst [.int 2, .int 7])) :
    ∃ (pd : Addr) (dg : List Int), y = .ref pd ∧ dg ∈ dgMenu ∧ H pd = some (.lst (dg.map V.int)) ∧ (pd = p1 ∨ pd = p2 ∨ pd = p3 ∨ pd = p4 ∨ pd = p5) := by
  have hm := List.mem_of_getElem? hy
  simp only [List.mem_cons, List.not_mem_nil, or_false] at hm
  rcases hm with rfl | rfl | rfl | rfl | rfl
  · exact ⟨_, [], rfl, by decide, h1, by simp⟩
  · exact ⟨_, [0], rfl, by decide, h2, by simp⟩
  · exact ⟨_, [1], rfl, by decide, h3, by simp⟩
  · exact ⟨_, [0, 1], rfl, by decide, h4, by simp⟩
  · exact ⟨_, [2, 7], rfl, by decide, h5, by simp⟩
def spPlain (K : PySem.W.Frag) (n : Nat) : Sp := fun vs H Q _ => ∃ (l : Addr) (mp md : Nat), vs = [.ref l, .int (mp : Nat), .int (md : Nat), .int (n : Nat)] ∧ PoolAt H l ∧ 1 ≤ mp ∧ mp ≤ 5 ∧ 1 ≤ md ∧ md ≤ 100 ∧ 1 ≤ n ∧
  ∀ d F ip us es ins H', But l H H' → PoolAt H' l → H d = none → H F = none → H ip = none → H' d = some (.dK (dictPI (.ref F) (.ref ip))) → H' F = some (.lst us) → H' ip = some (.lst (ins.map V.str)) → EntTups (fun x => H x = none) K H' us es → PlainFine mp md n es ins → Q (.ref d) H'
end
end Z
set_option maxRecDepth 100000
set_option maxHeartbeats 4000000
set_option pp.maxSteps 600
namespace Z
open PySem PySem.Spec PyProof.Rows L2
def DLike (d d' : DD) : Prop := d'.1 = d.1 ∧ d'.2.1 = d.2.1
def ELike (e e' : Ent) : Prop := e'.1 = e.1 ∧ e'.2.1 = e.2.1 ∧ All2 DLike e.2.2 e'.2.2
theorem lessStep_like : ∀ (ds : List DD) (s : Int × List DD), ∃ out, (ds.foldl lessStep s).2 = s.2 ++ out ∧ All2 DLike ds out
  | [], s => ⟨[], by rw [List.append_nil]; rfl, .nil⟩
  | d :: r, s => by
    obtain ⟨out, h1, h2⟩ := lessStep_like r (lessStep s d)
    refine ⟨(d.1, d.2.1, d.2.2 || decide (s.1 - (if !d.2.2 then 1 else 0) < 0)) :: out, ?_, .cons ⟨rfl, rfl⟩ h2⟩
    show (r.foldl lessStep (lessStep s d)).2 = _
    rw [h1]
    show (s.2 ++ [_]) ++ out = _
    rw [List.append_assoc]
    rfl
theorem lessEnt_like : ∀ (es : List Ent) (s : Int × List Ent), ∃ out, (es.foldl lessEnt s).2 = s.2 ++ out ∧ All2 ELike es out
  | [], s => ⟨[], by rw [List.append_nil]; rfl, .nil⟩
  | e :: r, s => by
    obtain ⟨out, h1, h2⟩ := lessEnt_like r (lessEnt s e)
    obtain ⟨o2, g1, g2⟩ := lessStep_like e.2.2 (s.1, [])
    refine ⟨(e.1, e.2.1, (e.2.2.foldl lessStep (s.1, [])).2) :: out, ?_, .cons ⟨rfl, rfl, ?_⟩ h2⟩
    · show (r.foldl lessEnt (lessEnt s e)).2 = _
      rw [h1]
      show (s.2 ++ [_]) ++ out = _
      rw [List.append_assoc]
      rfl
    · show All2 DLike e.2.2 (e.2.2.foldl lessStep (s.1, [])).2
      rw [g1]
      exact g2
theorem lessOnce_like (es : List Ent) : All2 ELike es (lessOnce es) := by
  obtain ⟨out, h1, h2⟩ := lessEnt_like es (8, [])
  unfold lessOnce
  rw [h1]
  exact h2
theorem All2.memR {α β : Type} {R : α → β → Prop} {xs : List α} {ys : List β} (h : All2 R xs ys) {y : β} (hy : y ∈ ys) : ∃ x ∈ xs, R x y := by
  obtain ⟨i, hi⟩ := List.mem_iff_getElem?.mp hy
  obtain ⟨x, hx, r⟩ := h.get' hi
  exact ⟨x, List.mem_of_getElem? hx, r⟩
theorem EOk.like {wr ws : List Str} {dg : List Int} {md n : Nat} {e e' : Ent} (l : ELike e e') (h : EOk wr ws dg md n e) : EOk wr ws dg md n e' := by
  obtain ⟨l1, l2, l3⟩ := l
  obtain ⟨h1, h2, h3, h4, h5, h6, h7⟩ := h
  unfold EOk
  rw [l2, ← l3.length]
  refine ⟨h1, h2, h3, h4, h5, h6, fun d hd => ?_⟩
  obtain ⟨d0, m0, a1, a2⟩ := l3.memR hd
  have := h7 d0 m0
  unfold DOk at this ⊢
  rw [a1, a2]
  exact this
theorem PlainFine.ents {mp md n : Nat} {es : List Ent} {ins : List Str} (h : PlainFine mp md n es ins) : ∃ (ws : List Str) (j : Nat) (dg : List Int) (tt : List Str), ws.Nodup ∧ (∀ y ∈ ws, Short y) ∧ 3 ≤ ws.length ∧ ws.length ≤ 4 ∧ 1 ≤ j ∧ j + 2 ≤ ws.length ∧ ins = ws.take j ∧ dg ∈ dgMenu ∧ tt ∈ ttMenu ∧
    1 ≤ es.length ∧ es.length ≤ mp ∧ es.map (·.1) = tt.take es.length ∧ ∀ e ∈ es, EOk (ws.drop j) ws dg md n e := by
  obtain ⟨ws, j, dg, tt, e0, h1, h2, h3, h4, h5, h6, h7, h8, h9, rfl, a1, a2, a3, a4⟩ := h
  have lk := lessOnce_like e0
  refine ⟨ws, j, dg, tt, h1, h2, h3, h4, h5, h6, h7, h8, h9, by rw [← lk.length]; exact a1, by rw [← lk.length]; exact a2, ?_, fun e he => ?_⟩
  · rw [← lk.length, ← a3]
    refine List.ext_getElem? fun i => ?_
    rw [List.getElem?_map, List.getElem?_map]
    cases e1 : e0[i]? with
    | none =>
      have := List.getElem?_eq_none_iff.mp e1
      rw [List.getElem?_eq_none_iff.mpr (by rw [← lk.length]; exact this)]
    | some x =>
      obtain ⟨y, hy, r⟩ := lk.get e1
      rw [hy]
      show some y.1 = some x.1
      rw [r.1]
  · obtain ⟨x, hx, r⟩ := lk.memR he
    exact (a4 x hx).like r
section
variable {P : Program} {w : World} {K : PySem.W.Frag} {mg : Str → Option Value} {base : Heap} {a : Ad}
theorem sg_len (b : Bool) : (sgOf b).length = 4 := by cases b <;> decide +kernel
def spDText (K : PySem.W.Frag) : Sp := fun vs H Q _ => ∃ v d, vs = [v] ∧ DTup K H v d ∧ Word d.1 ∧ d.2.1.Ok ∧ d.2.1.deep ≤ 3 ∧ ∀ H', Same H H' → Q (.str (dtext d.1 d.2.1 d.2.2)) H'
theorem lkP {m : Str} {s : Str} {pw pd : Addr} (h1 : (m == ("title" : Str)) = false := by decide) (h2 : (m == ("waited" : Str)) = false := by decide) (h3 : (m == ("done" : Str)) = false := by decide) : (pflds s pw pd).lookup m = none := by simp [pflds, List.lookup, h1, h2, h3]
end
end Z
set_option maxRecDepth 100000
set_option maxHeartbeats 4000000
set_option pp.maxSteps 600
namespace Z
open PySem PySem.Spec PyProof.Rows L2
theorem all_nil {α : Type} {p : α → Prop} : ∀ y ∈ ([] : List α), p y := fun y h => nomatch h
theorem all_cons {α : Type} {p : α → Prop} {x : α} {xs : List α} (h : p x) (t : ∀ y ∈ xs, p y) : ∀ y ∈ x :: xs, p y := fun y hy => by
  rcases List.mem_cons.mp hy with rfl | hy
  · exact h
  · exact t y hy
theorem all_app {α : Type} {p : α → Prop} {xs ys : List α} (h : ∀ y ∈ xs, p y) (t : ∀ y ∈ ys, p y) : ∀ y ∈ xs ++ ys, p y := fun y hy => (List.mem_append.mp hy).elim (h y) (t y)
theorem k_ns : kitB "NoneType" "str" = some false := by decide +kernel
theorem k_nl : kitB "NoneType" "list" = some false := by decide +kernel
theorem k_nt : kitB "NoneType" "tuple" = some false := by decide +kernel
theorem k_is : kitB "int" "str" = some false := by decide +kernel
theorem k_bs : kitB "bool" "str" = some false := by decide +kernel
theorem k_ls : kitB "list" "str" = some false := by decide +kernel
theorem k_ts : kitB "tuple" "str" = some false := by decide +kernel
theorem k_sl : kitB "str" "list" = some false := by decide +kernel
theorem k_dl : kitB "dict" "list" = some false := by decide +kernel
theorem k_dt : kitB "dict" "tuple" = some false := by decide +kernel
section
variable {K : PySem.W.Frag} {CD CT : Addr} {H : Hp}
def NmIt (K : PySem.W.Frag) (H : Hp) (y : V) : Prop := WQ K H y (wordV y) ∧ nameB y = false
def RwIt (K : PySem.W.Frag) (H : Hp) (y : V) : Prop := ∃ wl, UWL K H y false wl
def TxIt (K : PySem.W.Frag) (CD CT : Addr) (H : Hp) (y : V) : Prop := DQ K CD CT H y none
theorem NmIt.same {H' : Hp} {y : V} (s : Same H H') (h : NmIt K H y) : NmIt K H' y := ⟨h.1.same s, h.2⟩
theorem RwIt.same {H' : Hp} {y : V} (s : Same H H') (h : RwIt K H y) : RwIt K H' y := h.imp fun _ h => h.same s
theorem TxIt.same {H' : Hp} {y : V} (s : Same H H') (h : TxIt K CD CT H y) : TxIt K CD CT H' y := DQ.same s h
theorem nm_str {z : Str} (l : z.length ≤ 100) (e : nameB (.str z) = false) : NmIt K H (.str z) := ⟨.str z (by have := sl1k; omega), e⟩
theorem wq_str {z : Str} (l : z.length ≤ 100) : WQ K H (.str z) (wordV (.str z)) := .str z (by have := sl1k; omega)
theorem wq_non : WQ K H .non (wordV .non) := .oth (.base .non) k_ns
theorem wq_lst {p : Addr} {xs : List V} (h : H p = some (.lst xs)) : WQ K H (.ref p) (wordV (.ref p)) := .oth (.base (.lst h)) k_ls
theorem wq_tup {p : Addr} {xs : List V} (h : H p = some (.tup xs)) : WQ K H (.ref p) (wordV (.ref p)) := .oth (.base (.tup h)) k_ts
theorem nm_non : NmIt K H .non := ⟨wq_non, rfl⟩
theorem nm_int {n : Int} : NmIt K H (.int n) := ⟨.oth (.base (.int n)) k_is, rfl⟩
theorem nm_bl {b : Bool} : NmIt K H (.bl b) := ⟨.oth (.base (.bl b)) k_bs, rfl⟩
theorem nm_lst {p : Addr} {xs : List V} (h : H p = some (.lst xs)) : NmIt K H (.ref p) := ⟨wq_lst h, rfl⟩
theorem nm_tup {p : Addr} {xs : List V} (h : H p = some (.tup xs)) : NmIt K H (.ref p) := ⟨wq_tup h, rfl⟩
theorem rw_non : RwIt K H .non := ⟨[], .oth (.base .non) k_nl k_nt⟩
theorem rw_str {z : Str} : RwIt K H (.str z) := ⟨[], .oth (.base (.str z)) k_sl k_st⟩
theorem rw_dct {p : Addr} {kvs : List (Key × V)} (h : H p = some (.dK kvs)) : RwIt K H (.ref p) := ⟨[], .oth (.base (.dK h)) k_dl k_dt⟩
theorem rw_seq {p : Addr} {xs : List V} (h : Seq K H p xs) (w : ∀ y ∈ xs, WQ K H y (wordV y)) (few : xs.length ≤ 100) (e : unlikeB 1 4 xs = false) : RwIt K H (.ref p) := ⟨xs.filterMap strV, by rw [← e]; exact .seq h w few⟩
def osV : V → Option DD
  | .str z => dparts z
  | _ => none
theorem tx_non : TxIt K CD CT H .non := .oth (.base .non) k_nl k_nt
theorem tx_str {z : Str} : TxIt K CD CT H (.str z) := .oth (.base (.str z)) k_sl k_st
theorem tx_dct {p : Addr} {kvs : List (Key × V)} (h : H p = some (.dK kvs)) : TxIt K CD CT H (.ref p) := .oth (.base (.dK h)) k_dl k_dt
theorem iq_str {z : Str} (l : z.length ≤ 200) : IQ K CD CT H (.str z) (osV (.str z)) := .txt z (by have := sl1k; omega)
theorem dq_seq {p : Addr} {xs : List V} {r : Option (List DD)} (h : Seq K H p xs) (it : ∀ y ∈ xs, IQ K CD CT H y (osV y)) (e : (if 1 ≤ xs.length ∧ xs.length ≤ 4 then allS (fun i => (xs[i]?).bind osV) xs.length else none) = r) : DQ K CD CT H (.ref p) r := by
  subst e
  refine .seq h _ fun i y hy => ?_
  show IQ K CD CT H y ((xs[i]?).bind osV)
  rw [hy]
  exact it y (List.mem_of_getElem? hy)
theorem allS_texts {ds : List DD} (ok : ∀ d ∈ ds, Word d.1 ∧ d.2.1.Ok ∧ d.2.1.deep ≤ 3) : ∀ n, n ≤ ds.length → allS (fun i => ((ds.map fun d => V.str (dtext d.1 d.2.1 d.2.2))[i]?).bind osV) n = some (ds.take n)
  | 0, _ => rfl
  | n + 1, h => by
    have hn : n < ds.length := h
    obtain ⟨o1, o2, o3⟩ := ok ds[n] (List.getElem_mem hn)
    unfold allS
    rw [allS_texts ok n (Nat.le_of_lt hn), List.getElem?_map, List.getElem?_eq_getElem hn]
    show (match some (ds.take n), dparts (dtext ds[n].1 ds[n].2.1 ds[n].2.2) with | some l, some d => some (l ++ [d]) | _, _ => none) = _
    rw [dparts_text o1 o2 o3]
    show some (ds.take n ++ [ds[n]]) = _
    rw [List.take_succ, List.getElem?_eq_getElem hn]
    rfl
theorem dtext_small {d : DD} (o1 : Word d.1) (o2 : d.2.1.Ok) (o3 : d.2.1.deep ≤ 3) : (dtext d.1 d.2.1 d.2.2).length ≤ 200 := by
  have := text_small o2 o3
  have := o1.2.1
  have := sg_len d.2.2
  unfold dtext
  rw [len_app, len_app]
  omega
theorem dq_texts {p : Addr} {ds : List DD} (h : Seq K H p (ds.map fun d => V.str (dtext d.1 d.2.1 d.2.2))) (ok : ∀ d ∈ ds, Word d.1 ∧ d.2.1.Ok ∧ d.2.1.deep ≤ 3) (l1 : 1 ≤ ds.length) (l4 : ds.length ≤ 4) : DQ K CD CT H (.ref p) (some ds) := by
  refine dq_seq h (fun y hy => ?_) ?_
  · obtain ⟨d, hd, rfl⟩ := List.mem_map.mp hy
    obtain ⟨o1, o2, o3⟩ := ok d hd
    exact iq_str (dtext_small o1 o2 o3)
  · rw [List.length_map, if_pos ⟨l1, l4⟩, allS_texts ok _ (Nat.le_refl _), List.take_length]
theorem unlike_strs {ws : List Str} (nd : ws.Nodup) (hw : ∀ y ∈ ws, Word y) (l1 : 1 ≤ ws.length) (l4 : ws.length ≤ 4) : unlikeB 1 4 (ws.map V.str) = true := by
  unfold unlikeB
  rw [sv_str, List.length_map, decide_eq_true (show (1 : Int) ≤ (ws.length : Int) by omega), decide_eq_true (show (ws.length : Int) ≤ 4 by omega), decide_eq_true nd, Bool.true_and, Bool.true_and, Bool.and_true, List.all_map, List.all_eq_true]
  intro y hy
  exact wordB_iff.mpr (hw y hy)
theorem uwl_strs {p : Addr} {ws : List Str} (h : Seq K H p (ws.map V.str)) (nd : ws.Nodup) (hw : ∀ y ∈ ws, Word y) (l1 : 1 ≤ ws.length) (l4 : ws.length ≤ 4) : UWL K H (.ref p) true ws := by
  have e := unlike_strs nd hw l1 l4
  have : UWL K H (.ref p) (unlikeB 1 4 (ws.map V.str)) ((ws.map V.str).filterMap strV) := .seq h (fun y hy => by
    obtain ⟨z, hz, rfl⟩ := List.mem_map.mp hy
    exact .str z (by have := (hw z hz).2.1; have := sl1k; omega)) (by rw [List.length_map]; omega)
  rw [e, sv_str] at this
  exact this
def strsD (l : List Str) : PyData := .list (l.map PyData.str)
def toldOk (wl : List Str) : PyData := .list [.str "process", strsD wl]
def toldNo (part : Str) : PyData := .list [.str "none", .str part, .bool true]
theorem dpa_strs : ∀ l : List Str, DpAll K H (l.map V.str) (l.map PyData.str)
  | [] => .nil
  | z :: r => .cons (.str z) (dpa_strs r)
theorem dp_strs {p : Addr} {l : List Str} (h : H p = some (.lst (l.map V.str))) : Dp K H (.ref p) (strsD l) := .lst (.inl (.inl h)) (dpa_strs l)
theorem dp_ok {p q : Addr} {l : List Str} (h : H p = some (.lst [.str "process", .ref q])) (hq : H q = some (.lst (l.map V.str))) : Dp K H (.ref p) (toldOk l) := .lst (.inl (.inl h)) (.cons (.str _) (.cons (dp_strs hq) .nil))
theorem dp_no {p : Addr} {part : Str} (h : H p = some (.lst [.str "none", .str part, .bl true])) : Dp K H (.ref p) (toldNo part) := .lst (.inl (.inl h)) (.cons (.str _) (.cons (.str _) (.cons (.bl true) .nil)))
theorem lay_strs : ∀ {l : List Str}, (∀ y ∈ l, PyData.strOk y = true) → PyData.canLayAll0 (l.map PyData.str) = true
  | [], _ => by simp [PyData.canLayAll0]
  | z :: r, h => by
    have h1 := h z List.mem_cons_self
    have h2 := lay_strs fun y hy => h y (List.mem_cons_of_mem _ hy)
    simp [PyData.canLayAll0, PyData.canLay0, h1, h2]
theorem depth_strs : ∀ l : List Str, PyData.depthAll (l.map PyData.str) ≤ 1
  | [] => by simp [PyData.depthAll]
  | z :: r => by
    have := depth_strs r
    simp only [List.map_cons, PyData.depthAll, PyData.depth]
    omega
theorem neDp {x y : V} {d : PyData} {Q : VK} (h1 : Dp K H x d) (h2 : Dp K H y d) (hs : SeqAt.shaped d = true) (q : Q (.bl false) H) : rNeX K x y H Q := by
  have hl : d.canLay0 = true := (Bool.and_eq_true_iff.mp hs).1
  refine ⟨.inr (.inr ⟨d, d, h1, h2, hs, hs, ?_⟩)⟩
  rw [SeqAt.eqv_refl d hl]
  exact q
theorem shaped_ok {l : List Str} (h : ∀ y ∈ l, PyData.strOk y = true) : SeqAt.shaped (toldOk l) = true := by
  have h1 := lay_strs h
  have h2 := depth_strs l
  have h3 : PyData.strOk ("process" : Str) = true := by decide +kernel
  unfold SeqAt.shaped toldOk strsD
  rw [Bool.and_eq_true_iff]
  constructor
  · simp [PyData.canLay0, PyData.canLayAll0, h1, h3]
  · refine decide_eq_true ?_
    simp only [PyData.depth, PyData.depthAll]
    omega
theorem shaped_strs {l : List Str} (h : ∀ y ∈ l, PyData.strOk y = true) : SeqAt.shaped (strsD l) = true := by
  have h1 := lay_strs h
  have h2 := depth_strs l
  unfold SeqAt.shaped strsD
  rw [Bool.and_eq_true_iff]
  constructor
  · simp [PyData.canLay0, h1]
  · refine decide_eq_true ?_
    simp only [PyData.depth]
    omega
theorem shaped_no {part : Str} (h : PyData.strOk part = true) : SeqAt.shaped (toldNo part) = true := by
  have h3 : PyData.strOk ("none" : Str) = true := by decide +kernel
  unfold SeqAt.shaped toldNo
  rw [Bool.and_eq_true_iff]
  constructor
  · simp [PyData.canLay0, PyData.canLayAll0, h, h3]
  · refine decide_eq_true ?_
    simp only [PyData.depth, PyData.depthAll]
    omega
theorem tt_names {tt : List Str} (h : tt ∈ ttMenu) : ∀ z ∈ tt, nameB (.str z) = true ∧ z.length ≤ 8 := by
  have k : ∀ z ∈ (["p", "q", "r", "s", "t"] : List Str), nameB (.str z) = true ∧ z.length ≤ 8 := by decide +kernel
  have k2 : ∀ z ∈ (["t", "s", "r", "q", "p"] : List Str), nameB (.str z) = true ∧ z.length ≤ 8 := by decide +kernel
  simp only [ttMenu, List.mem_cons, List.not_mem_nil, or_false] at h
  rcases h with rfl | rfl
  · exact k
  · exact k2
theorem ls_x : ls ("x" : Str) = [120] := by decide +kernel
theorem nameB_x {z : Str} (h : Short z) : nameB (.str (z ++ "x")) = true ∧ (z ++ "x").length ≤ 8 := by
  obtain ⟨h1, h2, h3⟩ := h
  have hl : (ls (z ++ "x")).length = z.length + 1 := by
    rw [ls_app, List.length_append, ls_len, ls_x]
    rfl
  have hw : wordB (ls (z ++ "x")) = true := by
    unfold wordB
    rw [hl, decide_eq_true (show 1 ≤ z.length + 1 by omega), decide_eq_true (show z.length + 1 ≤ 8 by omega), ls_app, ls_x, List.all_append, List.all_eq_true.mpr h3]
    rfl
  refine ⟨?_, by rw [← ls_len, hl]; omega⟩
  show (wordB (ls (z ++ "x")) && !decide (z ++ "x" = ("turn" : Str))) = true
  rw [hw, Bool.true_and, decide_eq_false]
  · rfl
  · intro e
    have e := congrArg ls e
    rw [ls_app, ls_x, turn_ls] at e
    have := congrArg List.getLast? e
    rw [List.getLast?_append] at this
    cases this
end
end Z
set_option maxRecDepth 100000
set_option maxHeartbeats 4000000
set_option pp.maxSteps 500
namespace Z
open PySem PySem.Spec PyProof.Rows L2
theorem it_by {J : It} {n : Nat} {G : Hp → Prop} {Y : Nat → Hp → V → Hp → Prop} (w : Walk J n G Y) {B : V → Hp → (Hp → Prop) → Prop} {Qd : Hp → Prop} {H0 : Hp} (Pv : Nat → Hp → Prop) (h0 : Pv 0 H0) (hG : ∀ i H, i ≤ n → Pv i H → G H)
    (hs : ∀ i x H H', i < n → Pv i H → Y i H x H' → B x H' (Pv (i + 1))) (hd : ∀ H, Pv n H → Qd H) :
    ∃ W : Nat → Nat → Hp → Prop, (∃ m, W 0 m H0) ∧ ∀ i m H, W i m H → (J.stop i H ∧ Qd H) ∨ (J.go i H ∧ ∃ Nx : Hp → Prop, (∀ H', Nx H' → ∃ m', m' < m ∧ W (i + 1) m' H') ∧ ∀ x H', J.yld i H x H' → B x H' Nx) := by
  refine ⟨fun i m H => m = n - i ∧ i ≤ n ∧ Pv i H, ⟨n, by simp, Nat.zero_le _, h0⟩, ?_⟩
  rintro i m H ⟨rfl, hi, p⟩
  have q := hG i H hi p
  by_cases hlt : i < n
  · exact .inr ⟨w.goes i H hlt q, Pv (i + 1), fun H' p' => ⟨n - (i + 1), by omega, rfl, hlt, p'⟩, fun x H' y => hs i x H H' hlt p (w.yields i H x H' hlt q y)⟩
  · have e : i = n := by omega
    subst e
    exact .inl ⟨w.stops H q, hd H p⟩
theorem pi_listA {X : Cx} {K : PySem.W.Frag} {tg l : Expr} {tl : TE} (h : PE X l tl) (hk : X.K = K := by rfl) : PI X tg l (iList K tl) := by
  subst hk
  exact pi_list h
theorem pg_tupK {X : Cx} {es : List Expr} {k n : Nat} {t : TGs} {pos : Pos} {K : PySem.W.Frag} (hc : X.calm = true) (h : PGs X es t) (hk : X.K = K := by rfl)
    (hn : (assignEach es X.env).length = n := by rfl) (hst : (assignEach es X.env).findIdx? (·.1) = none := by rfl) : PG X (.Tuple es k pos) (gTup K n t) := by
  subst hk
  exact pg_tup hc h hn hst
theorem flat_snoc {α β : Type} {f : α → List β} {xs : List α} {i : Nat} {x : α} (h : xs[i]? = some x) : ((xs.take (i + 1)).map f).flatten = ((xs.take i).map f).flatten ++ f x := by
  rw [List.take_succ, h]
  simp
theorem flat_len {α β : Type} {f : α → List β} {xs : List α} {m : Nat} (h : ∀ x ∈ xs, (f x).length ≤ m) : ((xs.map f).flatten).length ≤ m * xs.length := by
  induction xs with
  | nil => simp
  | cons x r ih =>
    have h1 := h x List.mem_cons_self
    have h2 := ih fun y hy => h y (List.mem_cons_of_mem _ hy)
    simp only [List.map_cons, List.flatten_cons, List.length_append, List.length_cons, Nat.mul_add, Nat.mul_one]
    omega
theorem take_snoc {α : Type} {xs : List α} {i : Nat} {x : α} (h : xs[i]? = some x) : xs.take (i + 1) = xs.take i ++ [x] := by
  rw [List.take_succ, h]
  rfl
def dWrites (ds : List DD) : List Str := ascS (ds.map (·.1))
def dReads (ds : List DD) : List Str := ascS ((ds.map fun d => ascS d.2.1.ws).flatten)
def dConsts (ds : List DD) : List Int := ascI ((ds.map fun d => ascI d.2.1.ns).flatten)
def eVars (e : Ent) : List Str := ascS (e.2.1 ++ dReads e.2.2 ++ dWrites e.2.2)
def PFine (ds : List DD) : Prop := ds.length ≤ 4 ∧ ∀ d ∈ ds, d.2.1.deep ≤ 3 ∧ (ascS d.2.1.ws).length ≤ 10 ∧ (ascI d.2.1.ns).length ≤ 10
theorem DeedsAt.at {K : PySem.W.Frag} {CD CT : Addr} {H : Hp} {qs : List Addr} {ds : List DD} (h : DeedsAt K CD CT H qs ds) {j : Nat} {x : V} (hx : (qs.map V.ref)[j]? = some x) : ∃ q d, x = .ref q ∧ ds[j]? = some d ∧ DeedAt K CD CT H q d.1 d.2.1 d.2.2 := by
  obtain ⟨q, hq, rfl⟩ := map_at hx
  have hj := (List.getElem?_eq_some_iff.mp hq).1
  have hd := List.getElem?_eq_getElem (l := ds) (i := j) (by rw [← h.1]; exact hj)
  exact ⟨q, _, rfl, hd, h.2 j q _ hq hd⟩
section
variable {P : Program} {w : World} {K : PySem.W.Frag} {mg : Str → Option Value} {base : Heap} {a : Ad}
def spPWrites (K : PySem.W.Frag) (CP CD CT : Addr) : Sp := fun vs H Q _ => ∃ p s wl dl, vs = [.ref p] ∧ ProcAt K CP CD CT H p s wl dl ∧ dl.length < 64 ∧ ∀ q H', Same H H' → H q = none → H' q = some (.lst ((dWrites dl).map V.str)) → Q (.ref q) H'
def spPReads (K : PySem.W.Frag) (CP CD CT : Addr) : Sp := fun vs H Q _ => ∃ p s wl dl, vs = [.ref p] ∧ ProcAt K CP CD CT H p s wl dl ∧ PFine dl ∧ ∀ q H', Same H H' → H q = none → H' q = some (.lst ((dReads dl).map V.str)) → Q (.ref q) H'
end
end Z
set_option maxRecDepth 100000
set_option maxHeartbeats 4000000
set_option pp.maxSteps 500
namespace Z
open PySem PySem.Spec PyProof.Rows L2
theorem ascS_len {l : List Str} : (ascS l).length ≤ l.length := Ord.len_asc
theorem ascI_len {l : List Int} : (ascI l).length ≤ l.length := Ord.len_asc
def onceTo (ds : List DD) : Nat → List Int
  | 0 => []
  | n + 1 => match ds[n]? with
    | some d => if d.2.2 then onceTo ds n else onceTo ds n ++ [(n : Int)]
    | none => onceTo ds n
theorem onceTo_len (ds : List DD) : ∀ n, (onceTo ds n).length = (ds.take n).countP fun d => !d.2.2
  | 0 => by simp [onceTo]
  | n + 1 => by
    unfold onceTo
    cases h : ds[n]? with
    | none => rw [List.take_succ, h, onceTo_len ds n]; simp
    | some d =>
      rw [take_snoc h, List.countP_append, ← onceTo_len ds n]
      cases hd : d.2.2 <;> simp [hd]
def dOnce (ds : List DD) : List Int := onceTo ds ds.length
theorem dOnce_len (ds : List DD) : (dOnce ds).length = ds.countP fun d => !d.2.2 := by
  unfold dOnce
  rw [onceTo_len, List.take_length]
section
variable {P : Program} {w : World} {K : PySem.W.Frag} {mg : Str → Option Value} {base : Heap} {a : Ad}
theorem LT_by {K : PySem.W.Frag} {i : Nat} {σ : L2.St} {H : Hp} {R : It → Hp → Prop} {p : Addr} {xs : List V} (hσ : σ[i]? = some (some (.ref p))) (h : Seq K H p xs) (r : ∀ J G, Walk J xs.length G (YAt xs) → (∀ H', Same H H' → G H') → R J H) : iLT K i σ H R := by
  rcases h with h | h
  · exact .inl ⟨_, hσ, p, rfl, ⟨xs, .inl (.inl h)⟩, r _ _ walk_list (fun H' s => .inl (.inl (s _ _ h)))⟩
  · exact .inr ⟨_, hσ, p, rfl, ⟨xs, h⟩, r _ _ walk_tup (fun H' s => SqT.same s h)⟩
def spPConsts (K : PySem.W.Frag) (CP CD CT : Addr) : Sp := fun vs H Q _ => ∃ p s wl dl, vs = [.ref p] ∧ ProcAt K CP CD CT H p s wl dl ∧ PFine dl ∧ ∀ q H', Same H H' → H q = none → H' q = some (.lst ((dConsts dl).map V.int)) → Q (.ref q) H'
theorem dReads_len {ds : List DD} (h : PFine ds) : (dReads ds).length ≤ 40 := by
  have h1 := ascS_len (l := (ds.map fun d => ascS d.2.1.ws).flatten)
  have h2 := flat_len (f := fun d : DD => ascS d.2.1.ws) (xs := ds) (m := 10) fun d hd => (h.2 d hd).2.1
  have h3 := h.1
  unfold dReads
  omega
theorem dWrites_len {ds : List DD} : (dWrites ds).length ≤ ds.length := by
  have h1 := ascS_len (l := ds.map (·.1))
  rw [List.length_map] at h1
  exact h1
def spPVars (K : PySem.W.Frag) (CP CD CT : Addr) : Sp := fun vs H Q _ => ∃ p s wl dl, vs = [.ref p] ∧ ProcAt K CP CD CT H p s wl dl ∧ PFine dl ∧ wl.length ≤ 4 ∧ ∀ q H', Same H H' → H q = none → H' q = some (.lst ((eVars (s, wl, dl)).map V.str)) → Q (.ref q) H'
def spPOnce (K : PySem.W.Frag) (CP CD CT : Addr) : Sp := fun vs H Q _ => ∃ p s wl dl, vs = [.ref p] ∧ ProcAt K CP CD CT H p s wl dl ∧ dl.length ≤ 100 ∧ ∀ q H', Same H H' → H q = none → H' q = some (.lst ((dOnce dl).map V.int)) → Q (.ref q) H'
end
end Z
set_option maxRecDepth 100000
set_option maxHeartbeats 4000000
set_option pp.maxSteps 500
namespace Z
open PySem PySem.Spec PyProof.Rows L2
def PV (K : PySem.W.Frag) (CP CD CT : Addr) (H : Hp) (v : V) (e : Ent) : Prop := ∃ q, v = .ref q ∧ ProcAt K CP CD CT H q e.1 e.2.1 e.2.2
theorem PV.same {K : PySem.W.Frag} {CP CD CT : Addr} {H H' : Hp} {v : V} {e : Ent} (s : Same H H') (h : PV K CP CD CT H v e) : PV K CP CD CT H' v e := by
  obtain ⟨q, rfl, h⟩ := h
  exact ⟨q, rfl, h.same s⟩
abbrev PVs (K : PySem.W.Frag) (CP CD CT : Addr) (H : Hp) : List V → List Ent → Prop := All2 (PV K CP CD CT H)
theorem PVs.same {K : PySem.W.Frag} {CP CD CT : Addr} {H H' : Hp} {vs : List V} {es : List Ent} (s : Same H H') (h : PVs K CP CD CT H vs es) : PVs K CP CD CT H' vs es := h.imp fun _ _ h => h.same s
inductive PIt (K : PySem.W.Frag) (CP CD CT : Addr) (H : Hp) : V → Option Ent → Prop
  | own {q : Addr} {e : Ent} (h : ProcAt K CP CD CT H q e.1 e.2.1 e.2.2) : PIt K CP CD CT H (.ref q) (some e)
  | oth {x : V} {ty : String} (h : TyX K H x (.type ty)) (k : PySem.W.kitOne K (.type ty) (.ref CP) = some false) : PIt K CP CD CT H x none
theorem PIt.same {K : PySem.W.Frag} {CP CD CT : Addr} {H H' : Hp} {v : V} {e : Option Ent} (s : Same H H') (h : PIt K CP CD CT H v e) : PIt K CP CD CT H' v e := by
  cases h with
  | own h => exact .own (h.same s)
  | oth h k => exact .oth (tyX_same s h) k
def allO {α : Type} (os : Nat → Option α) : Nat → Option (List α)
  | 0 => some []
  | n + 1 => match allO os n, os n with
    | some l, some d => some (l ++ [d])
    | _, _ => none
theorem allO_isSome {α : Type} (os : Nat → Option α) (i : Nat) : (allO os (i + 1)).isSome = ((allO os i).isSome && (os i).isSome) := by
  rw [allO]
  cases allO os i <;> cases os i <;> rfl
theorem allO_some {α : Type} {os : Nat → Option α} : ∀ {n : Nat} {l : List α}, allO os n = some l → l.length = n ∧ ∀ i, i < n → os i = l[i]?
  | 0, l, h => by
    cases h
    exact ⟨rfl, fun i hi => absurd hi (Nat.not_lt_zero _)⟩
  | n + 1, l, h => by
    unfold allO at h
    split at h
    · rename_i m d e1 e2
      cases h
      obtain ⟨a1, a2⟩ := allO_some e1
      refine ⟨by rw [List.length_append, a1]; rfl, fun i hi => ?_⟩
      by_cases hn : i < n
      · rw [a2 i hn, List.getElem?_append_left (by omega)]
      · have : i = n := by omega
        subst this
        rw [e2, List.getElem?_append_right (by omega), a1, Nat.sub_self]
        rfl
    · cases h
inductive PsQ (K : PySem.W.Frag) (CP CD CT : Addr) (H : Hp) : V → Option (List Ent) → Prop
  | seq {p : Addr} {xs : List V} (h : Seq K H p xs) (os : Nat → Option Ent) (it : ∀ (i : Nat) (x : V), xs[i]? = some x → PIt K CP CD CT H x (os i)) : PsQ K CP CD CT H (.ref p) (if 1 ≤ xs.length ∧ xs.length ≤ 5 then allO os xs.length else none)
  | oth {x : V} {ty : Value} (h : TyX K H x ty) (k1 : PySem.W.kitOne K ty (.type "list") = some false) (k2 : PySem.W.kitOne K ty (.type "tuple") = some false) : PsQ K CP CD CT H x none
theorem PsQ.same {K : PySem.W.Frag} {CP CD CT : Addr} {H H' : Hp} {v : V} {r : Option (List Ent)} (s : Same H H') (h : PsQ K CP CD CT H v r) : PsQ K CP CD CT H' v r := by
  cases h with
  | seq h os it => exact .seq (h.same s) os fun i x hx => (it i x hx).same s
  | oth h k1 k2 => exact .oth (tyX_same s h) k1 k2
theorem PsQ.some {K : PySem.W.Frag} {CP CD CT : Addr} {H : Hp} {v : V} {es : List Ent} (h : PsQ K CP CD CT H v (some es)) : ∃ p xs, v = .ref p ∧ Seq K H p xs ∧ PVs K CP CD CT H xs es ∧ 1 ≤ es.length ∧ es.length ≤ 5 := by
  generalize hr : (Option.some es) = r at h
  cases h with
  | oth h k1 k2 => cases hr
  | @seq p xs h os it =>
    by_cases hl : 1 ≤ xs.length ∧ xs.length ≤ 5
    · rw [if_pos hl] at hr
      obtain ⟨a1, a2⟩ := allO_some hr.symm
      refine ⟨p, xs, rfl, h, ?_, by omega, by omega⟩
      have go : ∀ n, n ≤ xs.length → PVs K CP CD CT H (xs.take n) (es.take n) := fun n => by
        induction n with
        | zero => intro _; exact .nil
        | succ n ih =>
          intro hn
          have hx := List.getElem?_eq_getElem (l := xs) (i := n) hn
          have he := List.getElem?_eq_getElem (l := es) (i := n) (by omega)
          rw [take_snoc hx, take_snoc he]
          refine (ih (by omega)).snoc ?_
          have i1 := it n _ hx
          rw [a2 n hn, he] at i1
          generalize ho : Option.some es[n] = o at i1
          generalize hv : xs[n] = v at i1
          cases i1 with
          | own h =>
            cases ho
            exact ⟨_, rfl, h⟩
          | oth h k => cases ho
      have := go xs.length (Nat.le_refl _)
      rwa [List.take_length, show es.take xs.length = es by rw [← a1, List.take_length]] at this
    · rw [if_neg hl] at hr
      cases hr
theorem isiLTv {K : PySem.W.Frag} {x : V} {tp : Addr} {ty : Value} {H : Hp} {Q : VK} (h : TyX K H x ty) (h1 : PySem.W.kitOne K ty (.type "list") = some false) (h2 : PySem.W.kitOne K ty (.type "tuple") = some false) (ht : H tp = some (.tup [.ty "list", .ty "tuple"])) (q : Q (.bl false) H) : rIsi K [x, .ref tp] H Q ∨ rIsiT K [x, .ref tp] H Q := by
  refine .inr ⟨x, tp, [.ty "list", .ty "tuple"], ty, [.type "list", .type "tuple"], false, rfl, ht, .cons (.ty _) (.cons (.ty _) .nil), h, ?_, q⟩
  unfold PySem.W.kitAny
  rw [h1]
  show PySem.W.kitAny K ty [.type "tuple"] = some false
  unfold PySem.W.kitAny
  rw [h2]
  rfl
inductive InQ (K : PySem.W.Frag) (H : Hp) : V → Option (List Str) → Prop
  | seq {p : Addr} {xs : List V} (h : Seq K H p xs) (ws : ∀ y ∈ xs, WQ K H y (wordV y)) (few : xs.length ≤ 100) : InQ K H (.ref p) (if unlikeB 1 3 xs = true then some (xs.filterMap strV) else none)
  | oth {x : V} {ty : String} (h : TyX K H x (.type ty)) (k1 : kitB ty "list" = some false) (k2 : kitB ty "tuple" = some false) : InQ K H x none
theorem InQ.same {K : PySem.W.Frag} {H H' : Hp} {x : V} {o : Option (List Str)} (s : Same H H') (h : InQ K H x o) : InQ K H' x o := by
  cases h with
  | seq h ws few => exact .seq (h.same s) (fun y hy => (ws y hy).same s) few
  | oth h k1 k2 => exact .oth (tyX_same s h) k1 k2
theorem InQ.uw {K : PySem.W.Frag} {H : Hp} {x : V} {o : Option (List Str)} (h : InQ K H x o) : UW K H 1 3 x o.isSome := by
  cases h with
  | @seq p xs h ws few =>
    have := UW.seq (lo := 1) (hi := 3) h ws few
    cases e : unlikeB 1 3 xs <;> rw [e] at this <;> simpa using this
  | oth h k1 k2 => exact .oth h k1 k2
theorem InQ.some {K : PySem.W.Frag} {H : Hp} {x : V} {ins : List Str} (h : InQ K H x (some ins)) : ∃ p, x = .ref p ∧ Seq K H p (ins.map V.str) ∧ ins.length ≤ 3 ∧ 1 ≤ ins.length ∧ ins.Nodup ∧ ∀ y ∈ ins, Word y := by
  generalize hr : (Option.some ins) = r at h
  cases h with
  | oth h k1 k2 => cases hr
  | @seq p xs h ws few =>
    by_cases e : unlikeB 1 3 xs = true
    · rw [if_pos e] at hr
      cases hr
      obtain ⟨em, n1, n2, n3, n4⟩ := unlike_true e
      refine ⟨p, rfl, by rw [← em]; exact h, ?_, ?_, n1, n2⟩
      · have := congrArg List.length em
        rw [List.length_map] at this
        omega
      · have := congrArg List.length em
        rw [List.length_map] at this
        omega
    · rw [if_neg e] at hr
      cases hr
section
variable {P : Program} {w : World} {K : PySem.W.Frag} {mg : Str → Option Value} {base : Heap} {a : Ad}
def spArePs (K : PySem.W.Frag) (CP CD CT : Addr) : Sp := fun vs H Q _ => ∃ (x : V) (r : Option (List Ent)), vs = [x] ∧ PsQ K CP CD CT H x r ∧ ∀ H', Same H H' → Q (.bl r.isSome) H'
end
end Z
set_option maxRecDepth 100000
set_option maxHeartbeats 4000000
set_option pp.maxSteps 500
namespace Z
open PySem PySem.Spec PyProof.Rows L2
theorem inV_strs {x : Str} : ∀ l : List Str, inV (.str x) (l.map V.str) = decide (x ∈ l)
  | [] => rfl
  | z :: r => by
    have ih := inV_strs (x := x) r
    unfold inV at ih ⊢
    rw [List.map_cons, List.any_cons, ih]
    show ((z == x) || decide (x ∈ r)) = _
    by_cases h : x = z
    · subst h
      simp
    · have : ¬ z = x := fun e => h e.symm
      simp [h, this]
theorem flat_strs : ∀ l : List Str, (l.map V.str).all flatV = true
  | [] => rfl
  | z :: r => by
    rw [List.map_cons, List.all_cons, flat_strs r]
    rfl
theorem inStrs {K : PySem.W.Frag} {H : Hp} {Q : VK} {x : Str} {p : Addr} {l : List Str} (h : SqL K H p (l.map V.str)) (q : Q (.bl (decide (x ∈ l))) H) : rInA K false (.str x) (.ref p) H Q :=
  ⟨.inl ⟨p, _, rfl, .inl h, rfl, flat_strs l, by rw [inV_strs]; exact q⟩⟩
def writesOf (ins : List Str) (e : Ent) : Bool := ins.any fun w => decide (w ∈ dWrites e.2.2)
def inB (es : List Ent) : Option (List Str) → Bool
  | some ins => !(es.any (writesOf ins))
  | none => false
section
variable {P : Program} {w : World} {K : PySem.W.Frag} {mg : Str → Option Value} {base : Heap} {a : Ad}
def spAreIn (K : PySem.W.Frag) (CP CD CT : Addr) : Sp := fun vs H Q _ => ∃ (y : V) (px : Addr) (o : Option (List Str)) (xs : List V) (es : List Ent), vs = [y, .ref px] ∧ InQ K H y o ∧ Seq K H px xs ∧ PVs K CP CD CT H xs es ∧ xs.length ≤ 100 ∧ (∀ e ∈ es, e.2.2.length < 64) ∧ ∀ H', Same H H' → Q (.bl (inB es o)) H'
end
end Z
set_option maxRecDepth 100000
set_option maxHeartbeats 4000000
set_option pp.maxSteps 500
namespace Z
open PySem PySem.Spec PyProof.Rows L2
def VFine (e : Ent) : Prop := PFine e.2.2 ∧ e.2.1.length ≤ 4 ∧ (eVars e).length ≤ 10 ∧ (dConsts e.2.2).length ≤ 10
def allVars (es : List Ent) (ins : List Str) : List Str := ascS (ins ++ (es.map eVars).flatten)
def allConsts (es : List Ent) : List Int := ascI ((es.map fun e => dConsts e.2.2).flatten)
section
variable {P : Program} {w : World} {K : PySem.W.Frag} {mg : Str → Option Value} {base : Heap} {a : Ad}
def spAllV (K : PySem.W.Frag) (CP CD CT : Addr) : Sp := fun vs H Q _ => ∃ (px : Addr) (xs : List V) (es : List Ent) (py : Addr) (ins : List Str), vs = [.ref px, .ref py] ∧ Seq K H px xs ∧ PVs K CP CD CT H xs es ∧ es.length ≤ 5 ∧ (∀ e ∈ es, VFine e) ∧ Seq K H py (ins.map V.str) ∧ ins.length ≤ 3 ∧ ∀ q H', Same H H' → H q = none → H' q = some (.lst ((allVars es ins).map V.str)) → Q (.ref q) H'
def spAllC (K : PySem.W.Frag) (CP CD CT : Addr) : Sp := fun vs H Q _ => ∃ (px : Addr) (xs : List V) (es : List Ent), vs = [.ref px] ∧ Seq K H px xs ∧ PVs K CP CD CT H xs es ∧ es.length ≤ 5 ∧ (∀ e ∈ es, VFine e) ∧ ∀ q H', Same H H' → H q = none → H' q = some (.lst ((allConsts es).map V.int)) → Q (.ref q) H'
end
end Z
set_option maxRecDepth 100000
set_option maxHeartbeats 4000000
set_option pp.maxSteps 500
namespace Z
open PySem PySem.Spec PyProof.Rows L2
def atOnce (es : List Ent) : Nat := (es.map fun e => e.2.2.countP fun d => !d.2.2).sum
def fw (r : Option (List Ent)) (o : Option (List Str)) : Option Str := match r with
  | none => some "processes"
  | some es => if (es.map (·.1)).Nodup then (if inB es o = true then (if 5 < (allVars es (o.getD [])).length then some "variables" else if 2 < (allConsts es).length then some "constants" else if 8 < atOnce es then some "deeds" else none) else some "inputs") else some "names"
theorem fw_some (es : List Ent) (o : Option (List Str)) : fw (some es) o = if (es.map (·.1)).Nodup then (if inB es o = true then (if 5 < (allVars es (o.getD [])).length then some ("variables" : Str) else if 2 < (allConsts es).length then some ("constants" : Str) else if 8 < atOnce es then some ("deeds" : Str) else none) else some ("inputs" : Str)) else some ("names" : Str) := rfl
theorem sum_cast (es : List Ent) : (es.map fun e => ((e.2.2.countP fun d => !d.2.2 : Nat) : Int)).sum = (atOnce es : Nat) := by
  unfold atOnce
  induction es with
  | nil => rfl
  | cons e r ih =>
    simp only [List.map_cons, List.sum_cons, ih]
    omega
def optS : Option Str → V
  | none => .non
  | some s => .str s
section
variable {X : Cx} {e : Expr} {es : List Expr} {t : TA} {p pos : Pos} {K : PySem.W.Frag}
theorem cb_lenA (B : Bi X.mg) (ha : PA X (e :: es) t) (hk : X.K = K := by rfl) (hg : Gl X "len" := by rfl) (he : starEach (e :: es) X.env = (false, eval e X.env) :: starEach es X.env := by rfl) (hpl : (backTo pos (starEach es X.env)).any (·.1) = false := by rfl) :
    PE X (.Call (.Name "len" p) (e :: es) [] pos) (tCB (rLenA K) t) := by
  subst hk
  exact cb_len B ha hg he hpl
end
section
variable {P : Program} {w : World} {K : PySem.W.Frag} {mg : Str → Option Value} {base : Heap} {a : Ad}
def spFW (K : PySem.W.Frag) (CP CD CT : Addr) : Sp := fun vs H Q _ => ∃ (x y : V) (r : Option (List Ent)) (o : Option (List Str)), vs = [x, y] ∧ PsQ K CP CD CT H x r ∧ InQ K H y o ∧ (∀ es, r = some es → ∀ e ∈ es, VFine e) ∧ ∀ H', Same H H' → Q (optS (fw r o)) H'
end
end Z
set_option maxRecDepth 100000
set_option maxHeartbeats 4000000
set_option pp.maxSteps 500
namespace Z
open PySem PySem.Spec PyProof.Rows L2
theorem putN {f : Str} {v : V} : ∀ {fs : List (Str × V)}, (∀ q ∈ fs, q.1 ≠ f) → putF f v fs = fs ++ [(f, v)]
  | [], _ => rfl
  | (g, x) :: r, h => by
    unfold putF
    rw [if_neg (h (g, x) List.mem_cons_self), putN fun q hq => h q (List.mem_cons_of_mem _ hq)]
    rfl
def gflds (pl pt pg pw pn : Addr) : List (Str × V) := [("line", .ref pl), ("titles", .ref pt), ("given", .ref pg), ("words", .ref pw), ("numbers", .ref pn)]
def ProgAt (K : PySem.W.Frag) (CG CP CD CT : Addr) (H : Hp) (p : Addr) (es : List Ent) (ins : List Str) : Prop := ∃ dx pl pt pg pw pn xs, H p = some (.ins CG dx (gflds pl pt pg pw pn)) ∧ H pl = some (.lst xs) ∧ PVs K CP CD CT H xs es ∧ H pt = some (.lst ((es.map (·.1)).map V.str)) ∧ H pg = some (.lst (ins.map V.str)) ∧ H pw = some (.lst ((allVars es ins).map V.str)) ∧ H pn = some (.lst ((allConsts es).map V.int))
theorem ProgAt.same {K : PySem.W.Frag} {CG CP CD CT : Addr} {H H' : Hp} {p : Addr} {es : List Ent} {ins : List Str} (s : Same H H') (h : ProgAt K CG CP CD CT H p es ins) : ProgAt K CG CP CD CT H' p es ins := by
  obtain ⟨dx, pl, pt, pg, pw, pn, xs, h1, h2, h3, h4, h5, h6, h7⟩ := h
  exact ⟨dx, pl, pt, pg, pw, pn, xs, s _ _ h1, s _ _ h2, PVs.same s h3, s _ _ h4, s _ _ h5, s _ _ h6, s _ _ h7⟩
theorem PV.but {K : PySem.W.Frag} {CP CD CT : Addr} {H H' : Hp} {p C dx : Addr} {v : V} {e : Ent} (hp : H p = some (.ins C dx [])) (b : But p H H') (h : PV K CP CD CT H v e) : PV K CP CD CT H' v e := by
  obtain ⟨q, rfl, dx', pw, pd, qs, h1, h2, h3, h4⟩ := h
  exact ⟨q, rfl, dx', pw, pd, qs, b _ _ (ne_of h1 hp (by intro z; cases z)) h1, b _ _ (ne_of h2 hp (by intro z; cases z)) h2, b _ _ (ne_of h3 hp (by intro z; cases z)) h3, h4.but hp b⟩
section
variable {P : Program} {w : World} {K : PySem.W.Frag} {mg : Str → Option Value} {base : Heap} {a : Ad}
def spGInit (K : PySem.W.Frag) (CG CP CD CT X : Addr) : Sp := fun vs H Q E => ∃ (p dx : Addr) (x y : V) (r : Option (List Ent)) (o : Option (List Str)), vs = [.ref p, x, y] ∧ H p = some (.ins CG dx []) ∧ PsQ K CP CD CT H x r ∧ InQ K H y o ∧ (∀ es, r = some es → ∀ e ∈ es, VFine e) ∧
  (∀ s, fw r o = some s → FliesF E X "part" H (.str s)) ∧ (∀ es ins H', r = some es → o = some ins → fw r o = none → But p H H' → ProgAt K CG CP CD CT H' p es ins → Q .non H')
end
end Z
set_option maxRecDepth 100000
set_option maxHeartbeats 4000000
set_option pp.maxSteps 500
namespace Z
open PySem PySem.Spec PyProof.Rows L2
theorem ProcIn.weak {G G' : Hp} {K : PySem.W.Frag} {CP CD CT : Addr} {H : Hp} {p : Addr} {s : Str} {wl : List Str} {dl : List DD} (sG : Same G' G) (h : ProcIn G K CP CD CT H p s wl dl) : ProcIn G' K CP CD CT H p s wl dl := by
  obtain ⟨dx, pw, pd, qs, h1, h2, h3, h4, h5, h6⟩ := h
  exact ⟨dx, pw, pd, qs, h1, h2, h3, h4, sG.non h5, sG.non h6⟩
theorem make_proc {K : PySem.W.Frag} {H : Hp} {z : Str} {ws ds : V} {wl : List Str} {dl : List DD} {CP CD CT X o dx : Addr} {R : VK} {E : XK} (ho : H o = none) (hdx : H dx = none) (ne : dx ≠ o) (hn : nameB (.str z) = true) (hl : z.length ≤ 100) (hw : UWL K H ws true wl) (hd : DQ K CD CT H ds (some dl))
    (q : ∀ H', Same H H' → ProcIn H K CP CD CT H' o z wl dl → R .non H') : spPInit K CP CD CT X [.ref o, .str z, ws, ds] (upd (upd H dx (.own o)) o (.ins CP dx [])) R E := by
  have sm : Same H (upd (upd H dx (.own o)) o (.ins CP dx [])) := (sNew hdx).trans (sNew (by rw [upd_ne ne.symm]; exact ho))
  refine ⟨o, dx, .str z, ws, ds, true, wl, some dl, rfl, upd_same, wq_str hl, hw.same sm, hd.same sm, fun e => ?_, fun _ e => (nomatch e), fun _ _ e => (nomatch e), fun s dl' H' e1 e2 e3 e4 _ _ b hP => ?_⟩
  · rw [hn] at e
    cases e
  · cases e1
    cases e4
    obtain ⟨dx', pw, pd, qs, h1, h2, h3, h4, h5, h6⟩ := hP
    exact q H' (fun c u hc => b c u (ne_of_none hc ho) (sm _ _ hc)) ⟨dx', pw, pd, qs, h1, h2, h3, h4, sm.non h5, sm.non h6⟩
section
variable {P : Program} {w : World} {K : PySem.W.Frag} {mg : Str → Option Value} {base : Heap} {a : Ad}
def spGLen (K : PySem.W.Frag) (CG CP CD CT : Addr) : Sp := fun vs H Q _ => ∃ p es ins, vs = [.ref p] ∧ ProgAt K CG CP CD CT H p es ins ∧ Q (.int es.length) H
def EMade (e : Ent) : Prop := nameB (.str e.1) = true ∧ e.1.length ≤ 100 ∧ e.2.1.Nodup ∧ (∀ y ∈ e.2.1, Word y) ∧ 1 ≤ e.2.1.length ∧ e.2.1.length ≤ 4 ∧ 1 ≤ e.2.2.length ∧ e.2.2.length ≤ 4 ∧ ∀ d ∈ e.2.2, Word d.1 ∧ d.2.1.Ok ∧ d.2.1.deep ≤ 3
def spMade (K : PySem.W.Frag) (CP CD CT : Addr) : Sp := fun vs H Q _ => ∃ (v : V) (e : Ent) (N : Addr → Prop), vs = [v] ∧ EntTup N K H v e ∧ EMade e ∧ ∀ q H', Same H H' → ProcIn H K CP CD CT H' q e.1 e.2.1 e.2.2 → Q (.ref q) H'
end
end Z
set_option maxRecDepth 100000
set_option maxHeartbeats 4000000
set_option pp.maxSteps 500
namespace Z
open PySem PySem.Spec PyProof.Rows L2
theorem mem_ascS {y : Str} {l : List Str} : y ∈ ascS l ↔ y ∈ l := Ord.mem_asc
theorem mem_ascI {y : Int} {l : List Int} : y ∈ ascI l ↔ y ∈ l := Ord.mem_asc
theorem ascS_few {l m : List Str} (h : ∀ y ∈ l, y ∈ m) : (ascS l).length ≤ m.length := le_cover (Ord.up_nodup Ord.up_asc) fun y hy => h y (mem_ascS.mp hy)
theorem ascI_few {l m : List Int} (h : ∀ y ∈ l, y ∈ m) : (ascI l).length ≤ m.length := le_cover (Ord.up_nodup Ord.up_asc) fun y hy => h y (mem_ascI.mp hy)
theorem mem_flat {α β : Type} {f : α → List β} {xs : List α} {y : β} : y ∈ (xs.map f).flatten ↔ ∃ x ∈ xs, y ∈ f x := by
  rw [List.mem_flatten]
  constructor
  · rintro ⟨l, hl, hy⟩
    obtain ⟨x, hx, rfl⟩ := List.mem_map.mp hl
    exact ⟨x, hx, hy⟩
  · rintro ⟨x, hx, hy⟩
    exact ⟨f x, List.mem_map.mpr ⟨x, hx, rfl⟩, hy⟩
theorem mem_dWrites {ds : List DD} {y : Str} : y ∈ dWrites ds ↔ ∃ d ∈ ds, d.1 = y := by
  unfold dWrites
  rw [mem_ascS, List.mem_map]
theorem mem_dReads {ds : List DD} {y : Str} : y ∈ dReads ds ↔ ∃ d ∈ ds, y ∈ d.2.1.ws := by
  unfold dReads
  rw [mem_ascS, mem_flat]
  simp only [mem_ascS]
theorem mem_dConsts {ds : List DD} {y : Int} : y ∈ dConsts ds ↔ ∃ d ∈ ds, y ∈ d.2.1.ns := by
  unfold dConsts
  rw [mem_ascI, mem_flat]
  simp only [mem_ascI]
theorem mem_eVars {e : Ent} {y : Str} : y ∈ eVars e ↔ y ∈ e.2.1 ∨ (∃ d ∈ e.2.2, y ∈ d.2.1.ws) ∨ ∃ d ∈ e.2.2, d.1 = y := by
  unfold eVars
  rw [mem_ascS, List.mem_append, List.mem_append, mem_dReads, mem_dWrites, or_assoc]
theorem mem_allVars {es : List Ent} {ins : List Str} {y : Str} : y ∈ allVars es ins ↔ y ∈ ins ∨ ∃ e ∈ es, y ∈ eVars e := by
  unfold allVars
  rw [mem_ascS, List.mem_append, mem_flat]
theorem mem_allConsts {es : List Ent} {y : Int} : y ∈ allConsts es ↔ ∃ e ∈ es, y ∈ dConsts e.2.2 := by
  unfold allConsts
  rw [mem_ascI, mem_flat]
def cnt (ds : List DD) : Nat := ds.countP fun d => !d.2.2
theorem step_inv : ∀ (ds : List DD) (s : Int × List DD) (c : Nat), ((c + cnt s.2 : Nat) : Int) + max s.1 0 ≤ 8 → ((c + cnt (ds.foldl lessStep s).2 : Nat) : Int) + max (ds.foldl lessStep s).1 0 ≤ 8
  | [], s, c, h => h
  | d :: r, s, c, h => by
    refine step_inv r (lessStep s d) c ?_
    obtain ⟨k, acc⟩ := s
    obtain ⟨v, t, b⟩ := d
    have e : cnt (lessStep (k, acc) (v, t, b)).2 = cnt acc + (if (!(b || decide (k - (if !b then 1 else 0) < 0))) = true then 1 else 0) := by
      unfold cnt lessStep
      rw [List.countP_append, List.countP_singleton]
    rw [e]
    show ((c + (cnt acc + _) : Nat) : Int) + max (k - (if !b then 1 else 0)) 0 ≤ 8
    have h : ((c + cnt acc : Nat) : Int) + max k 0 ≤ 8 := h
    cases b with
    | true =>
      simp
      omega
    | false =>
      by_cases hk : k - 1 < 0
      · simp [hk]
        omega
      · simp [hk]
        omega
theorem ent_inv : ∀ (es : List Ent) (s : Int × List Ent), ((atOnce s.2 : Nat) : Int) + max s.1 0 ≤ 8 → ((atOnce (es.foldl lessEnt s).2 : Nat) : Int) + max (es.foldl lessEnt s).1 0 ≤ 8
  | [], s, h => h
  | e :: r, s, h => by
    refine ent_inv r (lessEnt s e) ?_
    have h1 := step_inv e.2.2 (s.1, []) (atOnce s.2) (by show ((atOnce s.2 + 0 : Nat) : Int) + max s.1 0 ≤ 8; omega)
    have e1 : atOnce (lessEnt s e).2 = atOnce s.2 + cnt (e.2.2.foldl lessStep (s.1, [])).2 := by
      unfold atOnce lessEnt cnt
      rw [List.map_append, List.sum_append]
      simp
    rw [e1]
    exact h1
theorem lessOnce_once (es : List Ent) : atOnce (lessOnce es) ≤ 8 := by
  have := ent_inv es (8, []) (by decide)
  unfold lessOnce
  omega
theorem EOk.small {wr ws : List Str} {dg : List Int} {md n : Nat} {e : Ent} (h : EOk wr ws dg md n e) (sub : ∀ y ∈ wr, y ∈ ws) (hd : md ≤ 4) (hn : n ≤ 3) (w4 : ws.length ≤ 10) (d4 : dg.length ≤ 10) :
    VFine e ∧ (∀ y ∈ eVars e, y ∈ ws) ∧ ∀ y ∈ dConsts e.2.2, y ∈ dg := by
  obtain ⟨h1, h2, h3, h4, h5, h6, h7⟩ := h
  have v1 : ∀ y ∈ eVars e, y ∈ ws := fun y hy => by
    rcases mem_eVars.mp hy with hy | ⟨d, hd, hy⟩ | ⟨d, hd, rfl⟩
    · exact h2 y hy
    · exact (h7 d hd).2.2.2.1 y hy
    · exact sub _ (h7 d hd).1
  have v2 : ∀ y ∈ dConsts e.2.2, y ∈ dg := fun y hy => by
    obtain ⟨d, hd, hy⟩ := mem_dConsts.mp hy
    exact (h7 d hd).2.2.2.2 y hy
  refine ⟨⟨⟨by omega, fun d hd => ?_⟩, by omega, ?_, ?_⟩, v1, v2⟩
  · obtain ⟨a1, a2, a3, a4⟩ := h7 d hd
    have := ascS_few a4.1
    have := ascI_few a4.2
    exact ⟨by omega, by omega, by omega⟩
  · have := le_cover (l := eVars e) (m := ws) (Ord.up_nodup Ord.up_asc) v1
    omega
  · have := le_cover (l := dConsts e.2.2) (m := dg) (Ord.up_nodup Ord.up_asc) v2
    omega
theorem dg_two {dg : List Int} (h : dg ∈ dgMenu) : dg.length ≤ 2 := by
  simp only [dgMenu, List.mem_cons, List.not_mem_nil, or_false] at h
  rcases h with rfl | rfl | rfl | rfl | rfl <;> decide
theorem tt_nodup {tt : List Str} (h : tt ∈ ttMenu) : tt.Nodup := by
  simp only [ttMenu, List.mem_cons, List.not_mem_nil, or_false] at h
  rcases h with rfl | rfl <;> decide +kernel
theorem PlainFine.prog {mp md n : Nat} {es : List Ent} {ins : List Str} (h : PlainFine mp md n es ins) (hp : mp ≤ 5) (hd : md ≤ 4) (hn : n ≤ 3) :
    1 ≤ es.length ∧ es.length ≤ mp ∧ (∀ e ∈ es, EMade e) ∧ (∀ e ∈ es, VFine e) ∧ fw (some es) (some ins) = none ∧ (∀ y ∈ ins, Word y) ∧ ins.Nodup ∧ 1 ≤ ins.length ∧ ins.length ≤ 2 := by
  have h0 := h
  obtain ⟨_, _, _, _, e0, _, _, _, _, _, _, _, _, _, eL, _⟩ := h0
  obtain ⟨ws, j, dg, tt, h1, h2, h3, h4, h5, h6, h7, h8, h9, a1, a2, a3, a4⟩ := h.ents
  have sub : ∀ y ∈ ws.drop j, y ∈ ws := fun y hy => List.mem_of_mem_drop hy
  have d2 := dg_two h8
  have sm : ∀ e ∈ es, VFine e ∧ (∀ y ∈ eVars e, y ∈ ws) ∧ ∀ y ∈ dConsts e.2.2, y ∈ dg := fun e he => (a4 e he).small sub hd hn (by omega) (by omega)
  have dis : ∀ y ∈ ws.take j, y ∉ ws.drop j := fun y hy hz => by
    have := h1
    rw [← List.take_append_drop j ws, List.nodup_append] at this
    exact this.2.2 y hy y hz rfl
  refine ⟨a1, a2, fun e he => ?_, fun e he => (sm e he).1, ?_, ?_, ?_, ?_, ?_⟩
  · obtain ⟨b1, b2, b3, b4, b5, b6, b7⟩ := a4 e he
    have hm : e.1 ∈ tt := by
      refine List.mem_of_mem_take (i := es.length) ?_
      rw [← a3]
      exact List.mem_map.mpr ⟨e, he, rfl⟩
    have nm := tt_names h9 _ hm
    refine ⟨nm.1, by omega, b1, fun y hy => (h2 y (b2 y hy)).word, b3, by omega, b5, by omega, fun d hd => ?_⟩
    obtain ⟨c1, c2, c3, _⟩ := b7 d hd
    exact ⟨(h2 _ (sub _ c1)).word, c2, by omega⟩
  · rw [fw_some, if_pos, if_pos, if_neg, if_neg, if_neg]
    · have := lessOnce_once e0
      rw [← eL] at this
      omega
    · have := le_cover (l := allConsts es) (m := dg) (Ord.up_nodup Ord.up_asc) fun y hy => by
        obtain ⟨e, he, hy⟩ := mem_allConsts.mp hy
        exact (sm e he).2.2 y hy
      omega
    · rw [Option.getD_some]
      have := le_cover (l := allVars es ins) (m := ws) (Ord.up_nodup Ord.up_asc) fun y hy => by
        rcases mem_allVars.mp hy with hy | ⟨e, he, hy⟩
        · rw [h7] at hy
          exact List.mem_of_mem_take hy
        · exact (sm e he).2.1 y hy
      omega
    · show (!(es.any (writesOf ins))) = true
      rw [Bool.not_eq_true']
      rw [List.any_eq_false]
      intro e he hw
      unfold writesOf at hw
      obtain ⟨y, hy, hz⟩ := List.any_eq_true.mp hw
      obtain ⟨d, hd, rfl⟩ := mem_dWrites.mp (of_decide_eq_true hz)
      rw [h7] at hy
      exact dis _ hy ((a4 e he).2.2.2.2.2.2 d hd).1
    · rw [a3]
      exact (tt_nodup h9).sublist (List.take_sublist _ _)
  · rw [h7]
    exact fun y hy => (h2 y (List.mem_of_mem_take hy)).word
  · rw [h7]
    exact h1.sublist (List.take_sublist _ _)
  · rw [h7, List.length_take]
    omega
  · rw [h7, List.length_take]
    omega
end Z
set_option maxRecDepth 100000
set_option maxHeartbeats 4000000
set_option pp.maxSteps 500
namespace Z
open PySem PySem.Spec PyProof.Rows L2
def gW (ds : List DD) : List Str := (ds.map fun d => d.1 :: ascS d.2.1.ws).flatten
def gWs (es : List Ent) : List Str := (es.map fun e => e.2.1 ++ gW e.2.2).flatten
def gD (ds : List DD) : List Int := (ds.map fun d => ascI d.2.1.ns).flatten
def gDs (es : List Ent) : List Int := (es.map fun e => gD e.2.2).flatten
theorem gWs_all (es : List Ent) (ins : List Str) : ascS (ins ++ gWs es) = allVars es ins := by
  refine Ord.asc_eq fun y => ?_
  rw [List.mem_append, List.mem_append, gWs, mem_flat, mem_flat]
  refine or_congr Iff.rfl ⟨fun ⟨e, he, h⟩ => ⟨e, he, ?_⟩, fun ⟨e, he, h⟩ => ⟨e, he, ?_⟩⟩
  · rw [mem_eVars]
    rcases List.mem_append.mp h with h | h
    · exact .inl h
    · obtain ⟨d, hd, h⟩ := mem_flat.mp h
      rcases List.mem_cons.mp h with rfl | h
      · exact .inr (.inr ⟨d, hd, rfl⟩)
      · exact .inr (.inl ⟨d, hd, mem_ascS.mp h⟩)
  · rw [List.mem_append]
    rcases mem_eVars.mp h with h | ⟨d, hd, h⟩ | ⟨d, hd, rfl⟩
    · exact .inl h
    · exact .inr (mem_flat.mpr ⟨d, hd, List.mem_cons_of_mem _ (mem_ascS.mpr h)⟩)
    · exact .inr (mem_flat.mpr ⟨d, hd, List.mem_cons_self⟩)
theorem gDs_all (es : List Ent) : ascI (gDs es) = allConsts es := by
  refine Ord.asc_eq fun y => ?_
  rw [gDs, mem_flat, mem_flat]
  refine ⟨fun ⟨e, he, h⟩ => ⟨e, he, ?_⟩, fun ⟨e, he, h⟩ => ⟨e, he, ?_⟩⟩
  · rw [mem_dConsts]
    obtain ⟨d, hd, h⟩ := mem_flat.mp h
    exact ⟨d, hd, mem_ascI.mp h⟩
  · obtain ⟨d, hd, h⟩ := mem_dConsts.mp h
    exact mem_flat.mpr ⟨d, hd, mem_ascI.mpr h⟩
theorem lv_few {t : Tr} (h : t.deep ≤ 3) : (ascS t.ws).length ≤ 16 ∧ (ascI t.ns).length ≤ 16 := by
  have h1 := lv_16 h
  have h2 := ascS_len (l := t.ws)
  have h3 := ascI_len (l := t.ns)
  have h4 : t.ws.length ≤ t.lv.length := by
    have := fm_len (f := strV) (xs := t.lv) (i := t.lv.length)
    rw [List.take_length, lv_ws] at this
    exact this
  have h5 : t.ns.length ≤ t.lv.length := by
    have := fm_len (f := intV) (xs := t.lv) (i := t.lv.length)
    rw [List.take_length, lv_ns] at this
    exact this
  omega
def LFine (e : Ent) : Prop := e.2.1.length ≤ 4 ∧ e.2.2.length ≤ 4 ∧ ∀ d ∈ e.2.2, d.2.1.Ok ∧ d.2.1.deep ≤ 3
theorem EMade.lf {e : Ent} (h : EMade e) : LFine e := ⟨h.2.2.2.2.2.1, h.2.2.2.2.2.2.2.1, fun d hd => (h.2.2.2.2.2.2.2.2 d hd).2⟩
theorem gW_len {ds : List DD} (h1 : ds.length ≤ 4) (h : ∀ d ∈ ds, d.2.1.Ok ∧ d.2.1.deep ≤ 3) (n : Nat) : (gW (ds.take n)).length ≤ 68 := by
  have f := flat_len (f := fun d : DD => d.1 :: ascS d.2.1.ws) (xs := ds.take n) (m := 17) fun d hd => by
    have := (lv_few (h d (List.mem_of_mem_take hd)).2).1
    rw [List.length_cons]
    omega
  have : (ds.take n).length ≤ ds.length := by rw [List.length_take]; exact Nat.min_le_right _ _
  unfold gW
  omega
theorem gD_len {ds : List DD} (h1 : ds.length ≤ 4) (h : ∀ d ∈ ds, d.2.1.Ok ∧ d.2.1.deep ≤ 3) (n : Nat) : (gD (ds.take n)).length ≤ 64 := by
  have f := flat_len (f := fun d : DD => ascI d.2.1.ns) (xs := ds.take n) (m := 16) fun d hd => (lv_few (h d (List.mem_of_mem_take hd)).2).2
  have : (ds.take n).length ≤ ds.length := by rw [List.length_take]; exact Nat.min_le_right _ _
  unfold gD
  omega
theorem gWs_len {es : List Ent} (h1 : es.length ≤ 10) (h : ∀ e ∈ es, LFine e) (n : Nat) : (gWs (es.take n)).length ≤ 720 := by
  have f := flat_len (f := fun e : Ent => e.2.1 ++ gW e.2.2) (xs := es.take n) (m := 72) fun e he => by
    obtain ⟨a1, a2, a3⟩ := h e (List.mem_of_mem_take he)
    have := gW_len a2 a3 e.2.2.length
    rw [List.take_length] at this
    rw [List.length_append]
    omega
  have : (es.take n).length ≤ es.length := by rw [List.length_take]; exact Nat.min_le_right _ _
  unfold gWs
  omega
theorem gDs_len {es : List Ent} (h1 : es.length ≤ 10) (h : ∀ e ∈ es, LFine e) (n : Nat) : (gDs (es.take n)).length ≤ 640 := by
  have f := flat_len (f := fun e : Ent => gD e.2.2) (xs := es.take n) (m := 64) fun e he => by
    obtain ⟨a1, a2, a3⟩ := h e (List.mem_of_mem_take he)
    have := gD_len a2 a3 e.2.2.length
    rw [List.take_length] at this
    exact this
  have : (es.take n).length ≤ es.length := by rw [List.length_take]; exact Nat.min_le_right _ _
  unfold gDs
  omega
section
variable {P : Program} {w : World} {K : PySem.W.Frag} {mg : Str → Option Value} {base : Heap} {a : Ad}
def spLVars (K : PySem.W.Frag) : Sp := fun vs H Q _ => ∃ (d F ip : Addr) (us : List V) (es : List Ent) (ins : List Str) (N : Addr → Prop), vs = [.ref d] ∧ H d = some (.dK (dictPI (.ref F) (.ref ip))) ∧ H F = some (.lst us) ∧ H ip = some (.lst (ins.map V.str)) ∧ EntTups N K H us es ∧ es.length ≤ 10 ∧ ins.length ≤ 10 ∧ (∀ e ∈ es, LFine e) ∧ (allVars es ins).length < 64 ∧
  ∀ q H', Same H H' → H q = none → H' q = some (.lst ((allVars es ins).map V.str)) → Q (.ref q) H'
def spLConsts (K : PySem.W.Frag) : Sp := fun vs H Q _ => ∃ (d F ip : Addr) (us : List V) (es : List Ent) (N : Addr → Prop), vs = [.ref d] ∧ H d = some (.dK (dictPI (.ref F) (.ref ip))) ∧ H F = some (.lst us) ∧ EntTups N K H us es ∧ es.length ≤ 10 ∧ (∀ e ∈ es, LFine e) ∧ (allConsts es).length < 64 ∧
  ∀ q H', Same H H' → H q = none → H' q = some (.lst ((allConsts es).map V.int)) → Q (.ref q) H'
end
end Z
set_option maxRecDepth 100000
set_option maxHeartbeats 4000000
set_option pp.maxSteps 500
namespace Z
open PySem PySem.Spec PyProof.Rows L2
def ProgAw (K : PySem.W.Frag) (CG CP CD CT : Addr) (H : Hp) (p : Addr) (es : List Ent) (ins : List Str) : Prop := ∃ dx pl pt pg pw pn xs, H p = some (.ins CG dx (gflds pl pt pg pw pn)) ∧ H pl = some (.lst xs) ∧ PVs K CP CD CT H xs es ∧ H pt = some (.lst ((es.map (·.1)).map V.str)) ∧ H pg = some (.lst (ins.map V.str)) ∧ H pw = some (.lst ((allVars es ins).map V.str)) ∧ True
theorem ProgAw.same {K : PySem.W.Frag} {CG CP CD CT : Addr} {H H' : Hp} {p : Addr} {es : List Ent} {ins : List Str} (s : Same H H') (h : ProgAw K CG CP CD CT H p es ins) : ProgAw K CG CP CD CT H' p es ins := by
  obtain ⟨dx, pl, pt, pg, pw, pn, xs, h1, h2, h3, h4, h5, h6, _⟩ := h
  exact ⟨dx, pl, pt, pg, pw, pn, xs, s _ _ h1, s _ _ h2, PVs.same s h3, s _ _ h4, s _ _ h5, s _ _ h6, trivial⟩
theorem ProgAt.aw {K : PySem.W.Frag} {CG CP CD CT : Addr} {H : Hp} {p : Addr} {es : List Ent} {ins : List Str} (h : ProgAt K CG CP CD CT H p es ins) : ProgAw K CG CP CD CT H p es ins := by
  obtain ⟨dx, pl, pt, pg, pw, pn, xs, h1, h2, h3, h4, h5, h6, _⟩ := h
  exact ⟨dx, pl, pt, pg, pw, pn, xs, h1, h2, h3, h4, h5, h6, trivial⟩
theorem filt_snoc {α : Type} {f : α → Bool} {xs : List α} {i : Nat} {x : α} (h : xs[i]? = some x) : (xs.take (i + 1)).filter f = if f x then (xs.take i).filter f ++ [x] else (xs.take i).filter f := by
  rw [take_snoc h, List.filter_append]
  cases hf : f x <;> simp [hf]
section
variable {P : Program} {w : World} {K : PySem.W.Frag} {mg : Str → Option Value} {base : Heap} {a : Ad}
def spGNames (K : PySem.W.Frag) (CG CP CD CT : Addr) : Sp := fun vs H Q _ => ∃ p es ins, vs = [.ref p] ∧ ProgAw K CG CP CD CT H p es ins ∧ ∀ q H', Same H H' → H q = none → H' q = some (.lst ((es.map (·.1)).map V.str)) → Q (.ref q) H'
end
end Z
set_option maxRecDepth 100000
set_option maxHeartbeats 4000000
set_option pp.maxSteps 500
namespace Z
open PySem PySem.Spec PyProof.Rows L2
theorem pe_fldK {X : Cx} {K : PySem.W.Frag} {e : Expr} {f : Str} {pos : Pos} {ta : TE} (he : PE X e ta) (hk : X.K = K := by rfl) (hb : attributeBase e f X.env (eval e X.env) = eval e X.env := by rfl) : PE X (.Attribute e f pos) (tFld K ta f) := by
  subst hk
  exact pe_fld he hb
def selTo (f : Nat → Bool) : Nat → List Int
  | 0 => []
  | n + 1 => if f n then selTo f n ++ [(n : Int)] else selTo f n
theorem mem_selTo {f : Nat → Bool} {z : Int} : ∀ {n : Nat}, z ∈ selTo f n ↔ ∃ i, i < n ∧ f i = true ∧ z = (i : Int)
  | 0 => by simp [selTo]
  | n + 1 => by
    have ih := mem_selTo (f := f) (z := z) (n := n)
    unfold selTo
    by_cases h : f n = true
    · rw [if_pos h, List.mem_append, ih, List.mem_singleton]
      constructor
      · rintro (⟨i, h1, h2, h3⟩ | h3)
        · exact ⟨i, by omega, h2, h3⟩
        · exact ⟨n, by omega, h, h3⟩
      · rintro ⟨i, h1, h2, h3⟩
        by_cases e : i = n
        · subst e
          exact .inr h3
        · exact .inl ⟨i, by omega, h2, h3⟩
    · rw [if_neg h, ih]
      constructor
      · rintro ⟨i, h1, h2, h3⟩
        exact ⟨i, by omega, h2, h3⟩
      · rintro ⟨i, h1, h2, h3⟩
        refine ⟨i, ?_, h2, h3⟩
        by_cases e : i = n
        · subst e
          exact absurd h2 h
        · omega
theorem selTo_len (f : Nat → Bool) : ∀ n, (selTo f n).length ≤ n
  | 0 => Nat.le_refl _
  | n + 1 => by
    have := selTo_len f n
    unfold selTo
    split
    · rw [List.length_append]
      simp
      omega
    · omega
theorem selTo_congr {f g : Nat → Bool} : ∀ {n : Nat}, (∀ i, i < n → f i = g i) → selTo f n = selTo g n
  | 0, _ => rfl
  | n + 1, h => by
    unfold selTo
    rw [h n (by omega), selTo_congr fun i hi => h i (by omega)]
theorem inV_ints {x : Int} : ∀ l : List Int, inV (.int x) (l.map V.int) = decide (x ∈ l)
  | [] => rfl
  | z :: r => by
    have ih := inV_ints (x := x) r
    unfold inV at ih ⊢
    rw [List.map_cons, List.any_cons, ih]
    show ((z == x) || decide (x ∈ r)) = _
    by_cases h : x = z
    · subst h
      simp
    · have : ¬ z = x := fun e => h e.symm
      simp [h, this]
theorem flat_ints : ∀ l : List Int, (l.map V.int).all flatV = true
  | [] => rfl
  | z :: r => by
    rw [List.map_cons, List.all_cons, flat_ints r]
    rfl
theorem inInts {K : PySem.W.Frag} {H : Hp} {Q : VK} {x : Int} {p : Addr} {l : List Int} (h : SqL K H p (l.map V.int)) (q : Q (.bl (decide (x ∈ l))) H) : rInA K false (.int x) (.ref p) H Q :=
  ⟨.inl ⟨p, _, rfl, .inl h, rfl, flat_ints l, by rw [inV_ints]; exact q⟩⟩
def waitB (es : List Ent) (v : Str) (j : Nat) : Bool := (es[j]?).any fun f => decide (v ∈ f.2.1)
def waitIx (es : List Ent) (v : Str) : List Int := selTo (waitB es v) es.length
theorem mem_waitIx {es : List Ent} {v : Str} {j : Nat} : (j : Int) ∈ waitIx es v ↔ ∃ f, es[j]? = some f ∧ v ∈ f.2.1 := by
  unfold waitIx
  rw [mem_selTo]
  constructor
  · rintro ⟨i, h1, h2, h3⟩
    have : j = i := by omega
    subst this
    unfold waitB at h2
    rw [List.getElem?_eq_getElem h1] at h2
    exact ⟨_, List.getElem?_eq_getElem h1, of_decide_eq_true h2⟩
  · rintro ⟨f, h1, h2⟩
    obtain ⟨hj, _⟩ := List.getElem?_eq_some_iff.mp h1
    refine ⟨j, hj, ?_, rfl⟩
    unfold waitB
    rw [h1]
    exact decide_eq_true h2
def GFine (es : List Ent) : Prop := es.length ≤ 5 ∧ ∀ e ∈ es, VFine e
section
variable {P : Program} {w : World} {K : PySem.W.Frag} {mg : Str → Option Value} {base : Heap} {a : Ad}
def spWaiters (K : PySem.W.Frag) (CG CP CD CT : Addr) : Sp := fun vs H Q _ => ∃ p es ins v, vs = [.ref p, .str v] ∧ ProgAw K CG CP CD CT H p es ins ∧ GFine es ∧ ∀ q H', Same H H' → H q = none → H' q = some (.lst ((waitIx es v).map V.int)) → Q (.ref q) H'
end
end Z
set_option maxRecDepth 100000
set_option maxHeartbeats 4000000
set_option pp.maxSteps 500
namespace Z
open PySem PySem.Spec PyProof.Rows L2
def awk (es : List Ent) (cs : List Str) : List Int := ascI ((cs.map (waitIx es)).flatten)
theorem uw_ok {K : PySem.W.Frag} {H : Hp} {lo hi : Int} {p : Addr} {cs : List Str} (h : Seq K H p (cs.map V.str)) (nd : cs.Nodup) (hw : ∀ y ∈ cs, Word y) (l1 : lo ≤ cs.length) (l2 : (cs.length : Int) ≤ hi) (few : cs.length ≤ 100) : UW K H lo hi (.ref p) true := by
  have e : unlikeB lo hi (cs.map V.str) = true := by
    unfold unlikeB
    rw [sv_str, List.length_map, decide_eq_true l1, decide_eq_true l2, decide_eq_true nd, Bool.true_and, Bool.true_and, Bool.and_true, List.all_map, List.all_eq_true]
    intro y hy
    exact wordB_iff.mpr (hw y hy)
  have := UW.seq (lo := lo) (hi := hi) h (fun y hy => by
    obtain ⟨z, hz, rfl⟩ := List.mem_map.mp hy
    exact .str z (by have := (hw z hz).2.1; have := sl1k; omega)) (by rw [List.length_map]; exact few)
  rw [e] at this
  exact this
theorem eqv_emp : ∀ zs : List Int, PyData.eqv (.tuple (zs.map PyData.int)) (.tuple []) = zs.isEmpty
  | [] => by decide +kernel
  | z :: r => by simp [PyData.eqv, PyData.eqvAll]
theorem shaped_tupI (zs : List Int) : SeqAt.shaped (.tuple (zs.map PyData.int)) = true := by
  have h1 : PyData.canLayAll0 (zs.map PyData.int) = true := laysI
  have h2 : PyData.depthAll (zs.map PyData.int) ≤ 1 := depI
  unfold SeqAt.shaped
  rw [Bool.and_eq_true_iff]
  constructor
  · simp [PyData.canLay0, h1]
  · refine decide_eq_true ?_
    simp only [PyData.depth]
    omega
theorem ninStrs {K : PySem.W.Frag} {H : Hp} {Q : VK} {x : Str} {p : Addr} {l : List Str} (h : SqL K H p (l.map V.str)) (q : Q (.bl (!decide (x ∈ l))) H) : rInA K true (.str x) (.ref p) H Q :=
  ⟨.inl ⟨p, _, rfl, .inl h, rfl, flat_strs l, by rw [inV_strs]; exact q⟩⟩
section
variable {P : Program} {w : World} {K : PySem.W.Frag} {mg : Str → Option Value} {base : Heap} {a : Ad}
theorem dpTupI {H : Hp} {p : Addr} {zs : List Int} (h : SqT K H p (zs.map V.int)) : Dp K H (.ref p) (.tuple (zs.map PyData.int)) := .tup h (dpInts zs)
theorem eqEmp {H : Hp} {Q : VK} {p q : Addr} {zs : List Int} (h : SqT K H p (zs.map V.int)) (h0 : SqT K H q []) (k : Q (.bl zs.isEmpty) H) : rEqX K (.ref p) (.ref q) H Q :=
  ⟨.inr (.inr ⟨_, .tuple [], dpTupI h, .tup h0 .nil, shaped_tupI zs, by decide +kernel, by rw [eqv_emp]; exact k⟩)⟩
theorem neEmp {H : Hp} {Q : VK} {p q : Addr} {zs : List Int} (h : SqT K H p (zs.map V.int)) (h0 : SqT K H q []) (k : Q (.bl (!zs.isEmpty)) H) : rNeX K (.ref p) (.ref q) H Q :=
  ⟨.inr (.inr ⟨_, .tuple [], dpTupI h, .tup h0 .nil, shaped_tupI zs, by decide +kernel, by rw [eqv_emp]; exact k⟩)⟩
def spAreNum (K : PySem.W.Frag) : Sp := fun vs H Q _ => ∃ (p : Addr) (zs : List Int) (n : Int), vs = [.ref p, .int n] ∧ SqT K H p (zs.map V.int) ∧ zs.length ≤ 900 ∧ (zs.length : Int) = n ∧ ∀ H', Same H H' → Q (.bl true) H'
def Chg (K : PySem.W.Frag) (H : Hp) (q : Addr) (cs ins : List Str) : Prop := Seq K H q (cs.map V.str) ∧ cs.Nodup ∧ (∀ y ∈ cs, Word y ∧ y ∈ ins) ∧ 1 ≤ cs.length ∧ cs.length ≤ ins.length ∧ ins.length ≤ 3
theorem Chg.same {H H' : Hp} {q : Addr} {cs ins : List Str} (s : Same H H') (h : Chg K H q cs ins) : Chg K H' q cs ins := ⟨h.1.same s, h.2⟩
def spIsChg (K : PySem.W.Frag) (CG CP CD CT : Addr) : Sp := fun vs H Q _ => ∃ (p q : Addr) (es : List Ent) (ins cs : List Str), vs = [.ref p, .ref q] ∧ ProgAw K CG CP CD CT H p es ins ∧ Chg K H q cs ins ∧ ∀ H', Same H H' → Q (.bl true) H'
end
end Z
set_option maxRecDepth 100000
set_option maxHeartbeats 4000000
set_option pp.maxSteps 500
namespace Z
open PySem PySem.Spec PyProof.Rows L2
section
variable {P : Program} {w : World} {K : PySem.W.Frag} {mg : Str → Option Value} {base : Heap} {a : Ad}
theorem wix_len {es : List Ent} {v : Str} : (waitIx es v).length ≤ es.length := selTo_len _ _
theorem wix_few {es : List Ent} (few : es.length ≤ 5) (cs : List Str) (l3 : cs.length ≤ 3) (n : Nat) : (((cs.take n).map (waitIx es)).flatten).length ≤ 15 := by
  have := flat_len (f := waitIx es) (xs := cs.take n) (m := 5) fun d _ => by have := wix_len (es := es) (v := d); omega
  have : (cs.take n).length ≤ cs.length := by rw [List.length_take]; exact Nat.min_le_right _ _
  omega
def spAwake (K : PySem.W.Frag) (CG CP CD CT : Addr) : Sp := fun vs H Q _ => ∃ (p q : Addr) (es : List Ent) (ins cs : List Str), vs = [.ref p, .ref q] ∧ ProgAw K CG CP CD CT H p es ins ∧ GFine es ∧ Seq K H q (cs.map V.str) ∧ cs.length ≤ 3 ∧ ∀ r H', Same H H' → H r = none → H' r = some (.tup ((awk es cs).map V.int)) → Q (.ref r) H'
end
end Z
set_option maxRecDepth 100000
set_option maxHeartbeats 4000000
set_option pp.maxSteps 500
namespace Z
open PySem PySem.Spec PyProof.Rows L2
def ltD (ls : List (Int × Int)) : List PyData := ls.map fun p => .tuple [.int p.1, .int p.2]
theorem eqv_empD : ∀ ds : List PyData, PyData.eqv (.tuple ds) (.tuple []) = ds.isEmpty
  | [] => by decide +kernel
  | z :: r => by simp [PyData.eqv, PyData.eqvAll]
theorem laysP : ∀ {ls : List (Int × Int)}, PyData.canLayAll0 (ltD ls) = true
  | [] => by simp [PyData.canLayAll0, ltD]
  | z :: zs => by
    have := laysP (ls := zs)
    unfold ltD at this ⊢
    simp only [List.map_cons, PyData.canLayAll0, PyData.canLay0, Bool.true_and]
    exact this
theorem depP : ∀ {ls : List (Int × Int)}, PyData.depthAll (ltD ls) ≤ 2
  | [] => by simp [PyData.depthAll, ltD]
  | z :: zs => by
    have := depP (ls := zs)
    unfold ltD at this ⊢
    simp only [List.map_cons, PyData.depthAll, PyData.depth]
    omega
theorem shaped_ltD (ls : List (Int × Int)) : SeqAt.shaped (.tuple (ltD ls)) = true := by
  have h1 := laysP (ls := ls)
  have h2 := depP (ls := ls)
  unfold SeqAt.shaped
  rw [Bool.and_eq_true_iff]
  constructor
  · simp [PyData.canLay0, h1]
  · refine decide_eq_true ?_
    simp only [PyData.depth]
    omega
def StAt (K : PySem.W.Frag) (H : Hp) (s v aw lt : Addr) (ais : List Int) (ls : List (Int × Int)) : Prop := H s = some (.tup [.ref v, .ref aw, .ref lt]) ∧ SqT K H aw (ais.map V.int) ∧ Dp K H (.ref lt) (.tuple (ltD ls))
theorem StAt.same {K : PySem.W.Frag} {H H' : Hp} {s v aw lt : Addr} {ais : List Int} {ls : List (Int × Int)} (sm : Same H H') (h : StAt K H s v aw lt ais ls) : StAt K H' s v aw lt ais ls := ⟨sm _ _ h.1, SqT.same sm h.2.1, dp_same sm h.2.2⟩
def nameAt (es : List Ent) (j : Int) : Str := ((es[j.toNat]?).map (·.1)).getD ""
def mvs (es : List Ent) (ais : List Int) (ls : List (Int × Int)) : List Str := if (ais.isEmpty && !ls.isEmpty) = true then ["turn"] else ais.map (nameAt es)
section
variable {P : Program} {w : World} {K : PySem.W.Frag} {mg : Str → Option Value} {base : Heap} {a : Ad}
theorem eqEmpD {H : Hp} {Q : VK} {p q : Addr} {ls : List (Int × Int)} (h : Dp K H (.ref p) (.tuple (ltD ls))) (h0 : SqT K H q []) (k : Q (.bl ls.isEmpty) H) : rEqX K (.ref p) (.ref q) H Q :=
  ⟨.inr (.inr ⟨_, .tuple [], h, .tup h0 .nil, shaped_ltD ls, by decide +kernel, by rw [eqv_empD]; unfold ltD; cases ls <;> exact k⟩)⟩
theorem neEmpD {H : Hp} {Q : VK} {p q : Addr} {ls : List (Int × Int)} (h : Dp K H (.ref p) (.tuple (ltD ls))) (h0 : SqT K H q []) (k : Q (.bl (!ls.isEmpty)) H) : rNeX K (.ref p) (.ref q) H Q :=
  ⟨.inr (.inr ⟨_, .tuple [], h, .tup h0 .nil, shaped_ltD ls, by decide +kernel, by rw [eqv_empD]; unfold ltD; cases ls <;> exact k⟩)⟩
def spIsEnd (K : PySem.W.Frag) : Sp := fun vs H Q _ => ∃ (p s v aw lt : Addr) (ais : List Int) (ls : List (Int × Int)), vs = [.ref p, .ref s] ∧ StAt K H s v aw lt ais ls ∧ ∀ H', Same H H' → Q (.bl (ais.isEmpty && ls.isEmpty)) H'
def spStart (K : PySem.W.Frag) (CG CP CD CT : Addr) : Sp := fun vs H Q _ => ∃ (p v q : Addr) (es : List Ent) (ins cs : List Str) (zs : List Int), vs = [.ref p, .ref v, .ref q] ∧ ProgAw K CG CP CD CT H p es ins ∧ GFine es ∧ SqT K H v (zs.map V.int) ∧ zs.length ≤ 900 ∧ zs.length = (allVars es ins).length ∧ Chg K H q cs ins ∧
  ∀ r aw lt H', Same H H' → StAt K H' r v aw lt (awk es cs) [] → Q (.ref r) H'
end
end Z
set_option maxRecDepth 100000
set_option maxHeartbeats 4000000
set_option pp.maxSteps 500
namespace Z
open PySem PySem.Spec PyProof.Rows L2
section
variable {P : Program} {w : World} {K : PySem.W.Frag} {mg : Str → Option Value} {base : Heap} {a : Ad}
def spMoves (K : PySem.W.Frag) (CG CP CD CT : Addr) : Sp := fun vs H Q _ => ∃ (p s v aw lt : Addr) (es : List Ent) (ins : List Str) (ais : List Int) (ls : List (Int × Int)), vs = [.ref p, .ref s] ∧ ProgAw K CG CP CD CT H p es ins ∧ StAt K H s v aw lt ais ls ∧ ais.length ≤ 60 ∧ (∀ j ∈ ais, ∃ i : Nat, j = (i : Int) ∧ i < es.length) ∧
  ∀ q H', Same H H' → H q = none → H' q = some (.lst ((mvs es ais ls).map V.str)) → Q (.ref q) H'
end
end Z
set_option maxRecDepth 100000
set_option maxHeartbeats 4000000
set_option pp.maxSteps 500
namespace Z
open PySem PySem.Spec PyProof.Rows L2
def wo (D : Addr) (H : Hp) : Hp := fun c => if c = D then none else H c
theorem wo_at {D c : Addr} {H : Hp} (h : c ≠ D) : wo D H c = H c := if_neg h
theorem wo_self {D : Addr} {H : Hp} : wo D H D = none := if_pos rfl
theorem wo_le {D : Addr} {H : Hp} : Same (wo D H) H := fun c o h => by
  by_cases e : c = D
  · subst e
    rw [wo_self] at h
    cases h
  · rwa [wo_at e] at h
theorem wo_upd {D : Addr} {H : Hp} {o : HO} : wo D (upd H D o) = wo D H := by
  funext c
  by_cases e : c = D
  · subst e
    rw [wo_self, wo_self]
  · rw [wo_at e, wo_at e, upd_ne e]
theorem wo_same {D : Addr} {H H' : Hp} (s : Same H H') : Same (wo D H) (wo D H') := fun c o h => by
  by_cases e : c = D
  · subst e
    rw [wo_self] at h
    cases h
  · rw [wo_at e] at h ⊢
    exact s c o h
theorem wo_of {D : Addr} {H H' : Hp} (n : H D = none) (s : Same H H') : Same H (wo D H') := fun c o h => by
  rw [wo_at (ne_of_none h n)]
  exact s c o h
theorem wo_tk {H : Hp} {D : Addr} {xs : List V} (h : H D = some (.lst xs)) : TK H (wo D H) := ⟨fun b ys e => by rw [wo_at (ne_of e h (by intro z; cases z))]; exact e, fun b o u e => by rw [wo_at (ne_of e h (by intro z; cases z))]; exact e⟩
theorem DeedsAt.wo {K : PySem.W.Frag} {CD CT : Addr} {H : Hp} {D : Addr} {xs : List V} {qs : List Addr} {ds : List DD} (hD : H D = some (.lst xs)) (h : DeedsAt K CD CT H qs ds) : DeedsAt K CD CT (Z.wo D H) qs ds :=
  h.kept (fun c C dx fs e _ => by rw [wo_at (ne_of e hD (by intro z; cases z))]; exact e) (wo_tk hD)
theorem ProcIn.wo {G : Hp} {K : PySem.W.Frag} {CP CD CT : Addr} {H : Hp} {p D : Addr} {e : Ent} {o : HO} {xs : List V} (g : G D = some o) (hD : H D = some (.lst xs)) (h : ProcIn G K CP CD CT H p e.1 e.2.1 e.2.2) : PV K CP CD CT (Z.wo D H) (.ref p) e := by
  obtain ⟨dx', pw, pd, qs, z1, z2, z3, z4, z5, z6⟩ := h
  exact ⟨p, rfl, dx', pw, pd, qs, by rw [wo_at (ne_of z1 hD (by intro z; cases z))]; exact z1, by rw [wo_at (ne_of_none g z5).symm]; exact z2, by rw [wo_at (ne_of_none g z6).symm]; exact z3, z4.wo hD⟩
theorem allO_get {α : Type} {es : List α} : ∀ n, n ≤ es.length → allO (fun i => es[i]?) n = some (es.take n)
  | 0, _ => rfl
  | n + 1, h => by
    rw [allO, allO_get n (by omega)]
    have hn := List.getElem?_eq_getElem (l := es) (i := n) h
    show (match some (es.take n), es[n]? with | some l, some d => some (l ++ [d]) | _, _ => none) = _
    rw [hn, take_snoc hn]
section
variable {K : PySem.W.Frag} {CP CD CT : Addr} {H : Hp}
theorem ps_ok {p : Addr} {xs : List V} {es : List Ent} (h : Seq K H p xs) (hs : PVs K CP CD CT H xs es) (l1 : 1 ≤ es.length) (l5 : es.length ≤ 5) : PsQ K CP CD CT H (.ref p) (some es) := by
  have le := hs.length
  have := PsQ.seq (CP := CP) (CD := CD) (CT := CT) h (fun i => es[i]?) fun i x hx => by
    obtain ⟨e, he, q, rfl, hq⟩ := hs.get hx
    show PIt K CP CD CT H (.ref q) (es[i]?)
    rw [he]
    exact .own hq
  rw [if_pos (by omega), le, allO_get _ (Nat.le_refl _), List.take_length] at this
  exact this
theorem pitP {q : Addr} {e : Ent} (h : PV K CP CD CT H (.ref q) e) : PIt K CP CD CT H (.ref q) (some e) := by
  obtain ⟨q', e1, h⟩ := h
  cases e1
  exact .own h
theorem in_ok {p : Addr} {ins : List Str} (h : Seq K H p (ins.map V.str)) (nd : ins.Nodup) (hw : ∀ y ∈ ins, Word y) (l1 : 1 ≤ ins.length) (l3 : ins.length ≤ 3) : InQ K H (.ref p) (some ins) := by
  have e : unlikeB 1 3 (ins.map V.str) = true := by
    unfold unlikeB
    rw [sv_str, List.length_map, decide_eq_true (show (1 : Int) ≤ (ins.length : Int) by omega), decide_eq_true (show (ins.length : Int) ≤ 3 by omega), decide_eq_true nd, Bool.true_and, Bool.true_and, Bool.and_true, List.all_map, List.all_eq_true]
    intro y hy
    exact wordB_iff.mpr (hw y hy)
  have := InQ.seq h (fun y hy => by
    obtain ⟨z, hz, rfl⟩ := List.mem_map.mp hy
    exact .str z (by have := (hw z hz).2.1; have := sl1k; omega)) (by rw [List.length_map]; omega)
  rw [if_pos e, sv_str] at this
  exact this
end
section
variable {P : Program} {w : World} {K : PySem.W.Frag} {mg : Str → Option Value} {base : Heap} {a : Ad}
def spGMade (K : PySem.W.Frag) (CG CP CD CT : Addr) : Sp := fun vs H Q _ => ∃ (d F ip : Addr) (us : List V) (es : List Ent) (ins : List Str) (N : Addr → Prop) (mp md n : Nat), vs = [.ref d] ∧ H d = some (.dK (dictPI (.ref F) (.ref ip))) ∧ H F = some (.lst us) ∧ H ip = some (.lst (ins.map V.str)) ∧ EntTups N K H us es ∧ PlainFine mp md n es ins ∧ mp ≤ 5 ∧ md ≤ 4 ∧ n ≤ 3 ∧
  ∀ g H', Same H H' → ProgAt K CG CP CD CT H' g es ins → Q (.ref g) H'
end
end Z
set_option maxRecDepth 100000
set_option maxHeartbeats 4000000
set_option pp.maxSteps 500
namespace Z
open PySem PySem.Spec PyProof.Rows L2
theorem but_of_wo {l : Addr} {H H' : Hp} (s : Same (wo l H) (wo l H')) : But l H H' := fun c o hc h => by
  have := s c o (by rw [wo_at hc]; exact h)
  rwa [wo_at hc] at this
theorem wo_but {l : Addr} {H H' : Hp} (b : But l H H') : Same (wo l H) (wo l H') := fun c o h => by
  by_cases e : c = l
  · subst e
    rw [wo_self] at h
    cases h
  · rw [wo_at e] at h ⊢
    exact b c o e h
def PlainAt (K : PySem.W.Frag) (G : Hp) (d : Addr) (es : List Ent) (ins : List Str) : Prop := ∃ (F ip : Addr) (us : List V) (N : Addr → Prop), G d = some (.dK (dictPI (.ref F) (.ref ip))) ∧ G F = some (.lst us) ∧ G ip = some (.lst (ins.map V.str)) ∧ EntTups N K G us es
theorem PlainAt.same {K : PySem.W.Frag} {G G' : Hp} {d : Addr} {es : List Ent} {ins : List Str} (s : Same G G') (h : PlainAt K G d es ins) : PlainAt K G' d es ins := by
  obtain ⟨F, ip, us, N, h1, h2, h3, h4⟩ := h
  exact ⟨F, ip, us, N, s _ _ h1, s _ _ h2, s _ _ h3, h4.same s⟩
section
variable {P : Program} {w : World} {K : PySem.W.Frag} {mg : Str → Option Value} {base : Heap} {a : Ad}
def spTakeB : Sp := fun vs H Q _ => ∃ (l : Addr) (b : Int), vs = [.ref l, .int b] ∧ PoolAt H l ∧ 0 < b ∧ b ≤ 1000000 ∧ ∀ r H', But l H H' → PoolAt H' l → 0 ≤ r → r < b → Q (.int r) H'
theorem ok_takeB (T : Tx P K mg a) : FnOk P w K mg base CX0 1 a.f__law_take a.d__law_take ["pool", "bound"] spTakeB := by
  refine T._law_take.fn.ok sc__law_take (fun vs H Q E h => ?_) (fun cdv A outer s H vs Q E hr h => ?_)
  · obtain ⟨l, b, rfl, _⟩ := h
    rfl
  · obtain ⟨l, b, rfl, ⟨p, q, hl, q0, q1⟩, hb, hb2, k⟩ := h
    have nd := sc__law_take.nd
    refine ⟨_, (pss_cons (ps_if (pt_cmpR op_gt (pe_ix ix_A (pv 0) pe_int (fun _ _ => rfl)) pe_int (nomark _))
        (pss_cons (ps_set (i := 2) nd rfl (Or.inl rfl) (pe_op op_mod (cb_int T.bi (pa_cons (pe_ix ix_A (pv 0) pe_int (fun _ _ => rfl)) pa_nil)) (pv 1)))
        (pss_cons (ps_asg (pe_op op_fdivW (pe_ix ix_A (pv 0) pe_int (fun _ _ => rfl)) (pv 1)) (pg_sub (pv 0) pe_int set_list))
        (pss_one (ps_ret (pv 2))))) pss_nil)
      (pss_cons (ps_asg (pe_op op_mod (cb_int T.bi (pa_cons (pe_op op_addA (pe_op op_mulA (pe_ix ix_A (pv 0) pe_int (fun _ _ => rfl)) pe_int) pe_int) pa_nil)) pe_int) (pg_sub (pv 0) pe_int set_list))
      (pss_one (ps_ret (pe_op op_mod (cb_int T.bi (pa_cons (pe_op op_fdivW (pe_op op_mod (cb_int T.bi (pa_cons (pe_op op_mulA (pe_ix ix_A (pv 0) pe_int (fun _ _ => rfl)) (pe_ix ix_A (pv 0) pe_int (fun _ _ => rfl))) pa_nil)) pe_int) pe_int) pa_nil)) (pv 1)))))), ?_⟩
    refine ⟨_, rfl, ixP0 hl ?_⟩
    refine ⟨p, 0, rfl, rfl, _, rfl, ?_⟩
    by_cases hp : 0 < p
    · rw [decide_eq_true hp]
      refine ⟨_, rfl, ixP0 hl (intI ?_)⟩
      refine ⟨_, rfl, _, _, rfl, rfl, hb, ?_⟩
      refine ⟨_, rfl, ixP0 hl ?_⟩
      refine ⟨_, rfl, _, _, rfl, rfl, wide_div (b := 20) hb (by omega) (by decide) (by decide), ?_⟩
      refine ⟨_, rfl, l, _, 0, 0, rfl, rfl, hl, rfl, ?_⟩
      exact ⟨_, rfl, k _ _ (But.upd) ⟨_, _, upd_same, q0, q1⟩ (Int.emod_nonneg _ (by omega)) (Int.emod_lt_of_pos _ hb)⟩
    · rw [decide_eq_false hp]
      refine ⟨_, rfl, ixP1 hl ?_⟩
      refine mulI (mulx_ok (a := 31) (b := 16) (by omega) (by decide) (by decide)) (addI (intI ?_))
      refine ⟨_, _, rfl, rfl, (show (0 : Int) < 2147483647 by decide), ?_⟩
      refine ⟨_, rfl, l, _, 1, 1, rfl, rfl, hl, rfl, ?_⟩
      have g0 := Int.emod_nonneg (q * 39373 + 7) (show (2147483647 : Int) ≠ 0 by decide)
      have g1 := Int.emod_lt_of_pos (q * 39373 + 7) (show (0 : Int) < 2147483647 by decide)
      have hl2 : (upd H l (.lst ([V.int p, .int q].set 1 (.int ((q * 39373 + 7) % 2147483647))))) l = some (.lst [.int p, .int ((q * 39373 + 7) % 2147483647)]) := upd_same
      refine ⟨_, rfl, ixP1 hl2 ?_⟩
      refine ⟨_, rfl, ixP1 hl2 ?_⟩
      refine mulI (mulx_ok (a := 31) (b := 31) (by omega) (by omega) (by decide)) (intI ?_)
      refine ⟨_, _, rfl, rfl, (show (0 : Int) < 2147483629 by decide), ?_⟩
      refine ⟨_, _, rfl, rfl, ⟨(show (0 : Int) < 32 by decide), by decide⟩, intI ?_⟩
      refine ⟨_, rfl, _, _, rfl, rfl, hb, ?_⟩
      exact k _ _ (But.upd) ⟨_, _, hl2, g0, g1⟩ (Int.emod_nonneg _ (by omega)) (Int.emod_lt_of_pos _ hb)
def spWorths (K : PySem.W.Frag) : Sp := fun vs H Q _ => ∃ (l d : Addr) (es : List Ent) (ins : List Str), vs = [.ref l, .ref d] ∧ PoolAt H l ∧ PlainAt K (wo l H) d es ins ∧ es.length ≤ 10 ∧ ins.length ≤ 10 ∧ (∀ e ∈ es, LFine e) ∧ (allVars es ins).length < 64 ∧ (allConsts es).length < 64 ∧
  ∀ (q : Addr) (zs : List Int) (H' : Hp), But l H H' → PoolAt H' l → H q = none → H' q = some (.tup (zs.map V.int)) → zs.length = (allVars es ins).length → Q (.ref q) H'
end
end Z
set_option maxRecDepth 100000
set_option maxHeartbeats 4000000
set_option pp.maxSteps 500
namespace Z
open PySem PySem.Spec PyProof.Rows L2
def GoodP (es : List Ent) (ins : List Str) : Prop := 1 ≤ es.length ∧ es.length ≤ 5 ∧ (∀ e ∈ es, EMade e) ∧ (∀ e ∈ es, VFine e) ∧ fw (some es) (some ins) = none ∧ (∀ y ∈ ins, Word y) ∧ ins.Nodup ∧ 1 ≤ ins.length ∧ ins.length ≤ 3
theorem GoodP.few {es : List Ent} {ins : List Str} (h : GoodP es ins) : (allVars es ins).length ≤ 5 ∧ (allConsts es).length ≤ 2 := by
  have := h.2.2.2.2.1
  rw [fw_some] at this
  by_cases h1 : (es.map (·.1)).Nodup
  · rw [if_pos h1] at this
    by_cases h2 : inB es (some ins) = true
    · rw [if_pos h2] at this
      by_cases h3 : 5 < (allVars es ((some ins).getD [])).length
      · rw [if_pos h3] at this
        cases this
      · rw [if_neg h3] at this
        by_cases h4 : 2 < (allConsts es).length
        · rw [if_pos h4] at this
          cases this
        · exact ⟨by have h3 : ¬ 5 < (allVars es ins).length := h3; omega, by omega⟩
    · rw [if_neg h2] at this
      cases this
  · rw [if_neg h1] at this
    cases this
theorem mem_allVars' {es : List Ent} {ins : List Str} {y : Str} : y ∈ allVars es ins ↔ y ∈ ins ∨ y ∈ gWs es := by
  rw [← gWs_all, mem_ascS, List.mem_append]
theorem gWs_wr {es : List Ent} {e : Ent} (he : e ∈ es) {y : Str} (hy : y ∈ dWrites e.2.2) : y ∈ gWs es := by
  obtain ⟨d, hd, rfl⟩ := mem_dWrites.mp hy
  unfold gWs
  refine mem_flat.mpr ⟨e, he, List.mem_append.mpr (.inr ?_)⟩
  unfold gW
  exact mem_flat.mpr ⟨d, hd, List.mem_cons_self⟩
theorem GoodP.more {es : List Ent} {ins : List Str} {x : Str} (h : GoodP es ins) (i2 : ins.length ≤ 2) (hx : Word x) (nx : x ∉ allVars es ins) (l5 : (allVars es ins).length < 5) : GoodP es (ins ++ [x]) := by
  obtain ⟨a1, a2, a3, a4, a5, a6, a7, a8, a9⟩ := h
  refine ⟨a1, a2, a3, a4, ?_, fun y hy => ?_, ?_, by rw [List.length_append]; omega, by rw [List.length_append]; show _ + 1 ≤ 3; omega⟩
  · rw [fw_some] at a5 ⊢
    by_cases h1 : (es.map (·.1)).Nodup
    · rw [if_pos h1] at a5 ⊢
      by_cases h2 : inB es (some ins) = true
      · rw [if_pos h2] at a5
        have h2' : inB es (some (ins ++ [x])) = true := by
          unfold inB at h2 ⊢
          rw [Bool.not_eq_true', List.any_eq_false] at h2 ⊢
          intro e he hw
          unfold writesOf at hw
          rw [List.any_eq_true] at hw
          obtain ⟨z, hz, hz2⟩ := hw
          rcases List.mem_append.mp hz with hz | hz
          · exact h2 e he (List.any_eq_true.mpr ⟨z, hz, hz2⟩)
          · rw [List.mem_singleton] at hz
            subst hz
            exact nx (mem_allVars'.mpr (.inr (gWs_wr he (of_decide_eq_true hz2))))
        rw [if_pos h2']
        have hv : ¬ 5 < (allVars es ((some (ins ++ [x])).getD [])).length := by
          show ¬ 5 < (allVars es (ins ++ [x])).length
          have := le_cover (l := allVars es (ins ++ [x])) (m := allVars es ins ++ [x]) (Ord.up_nodup Ord.up_asc) fun y hy => by
            rw [List.mem_append, mem_allVars']
            rcases mem_allVars'.mp hy with hy | hy
            · rcases List.mem_append.mp hy with hy | hy
              · exact .inl (.inl hy)
              · exact .inr hy
            · exact .inl (.inr hy)
          rw [List.length_append] at this
          have e1 : [x].length = 1 := rfl
          omega
        rw [if_neg hv]
        by_cases h3 : 5 < (allVars es ((some ins).getD [])).length
        · exact absurd h3 (by show ¬ 5 < (allVars es ins).length; omega)
        · rw [if_neg h3] at a5
          exact a5
      · rw [if_neg h2] at a5
        cases a5
    · rw [if_neg h1] at a5
      cases a5
  · rcases List.mem_append.mp hy with hy | hy
    · exact a6 y hy
    · rw [List.mem_singleton] at hy
      subst hy
      exact hx
  · rw [List.nodup_append]
    refine ⟨a7, List.nodup_cons.mpr ⟨(fun z => nomatch z), List.nodup_nil⟩, fun y hy z hz e => ?_⟩
    rw [List.mem_singleton] at hz
    subst hz
    subst e
    exact nx (mem_allVars'.mpr (.inl hy))
theorem awk_both {es : List Ent} {cs ds : List Str} : awk es (ascS (mors [] (cs ++ ds))) = ascI (awk es cs ++ awk es ds) := by
  refine Ord.asc_eq fun y => ?_
  rw [mem_flat, List.mem_append]
  unfold awk
  rw [mem_ascI, mem_ascI, mem_flat, mem_flat]
  constructor
  · rintro ⟨v, hv, h⟩
    rw [mem_ascS, mem_mors] at hv
    rcases hv with hv | hv
    · cases hv
    · rcases List.mem_append.mp hv with hv | hv
      · exact .inl ⟨v, hv, h⟩
      · exact .inr ⟨v, hv, h⟩
  · rintro (⟨v, hv, h⟩ | ⟨v, hv, h⟩)
    · exact ⟨v, mem_ascS.mpr (mem_mors.mpr (.inr (List.mem_append.mpr (.inl hv)))), h⟩
    · exact ⟨v, mem_ascS.mpr (mem_mors.mpr (.inr (List.mem_append.mpr (.inr hv)))), h⟩
theorem mem_awk {es : List Ent} {cs : List Str} {j : Int} (h : j ∈ awk es cs) : ∃ i : Nat, j = (i : Int) ∧ i < es.length := by
  unfold awk at h
  rw [mem_ascI, mem_flat] at h
  obtain ⟨v, _, h⟩ := h
  unfold waitIx at h
  rw [mem_selTo] at h
  obtain ⟨i, h1, _, h3⟩ := h
  exact ⟨i, h3, h1⟩
theorem awk_len {es : List Ent} {cs : List Str} : (awk es cs).length ≤ es.length := by
  have := le_cover (l := awk es cs) (m := List.map (fun i : Nat => (i : Int)) (List.range es.length)) (Ord.up_nodup Ord.up_asc) fun y hy => by
    obtain ⟨i, rfl, hi⟩ := mem_awk hy
    exact List.mem_map.mpr ⟨i, List.mem_range.mpr hi, rfl⟩
  rw [List.length_map, List.length_range] at this
  exact this
section
variable {P : Program} {w : World} {K : PySem.W.Frag} {mg : Str → Option Value} {base : Heap} {a : Ad}
def spGMade2 (K : PySem.W.Frag) (CG CP CD CT : Addr) : Sp := fun vs H Q _ => ∃ (d : Addr) (es : List Ent) (ins : List Str), vs = [.ref d] ∧ PlainAt K H d es ins ∧ GoodP es ins ∧
  ∀ g H', Same H H' → ProgAw K CG CP CD CT H' g es ins → Q (.ref g) H'
end
end Z
set_option maxRecDepth 100000
set_option maxHeartbeats 4000000
set_option pp.maxSteps 500
namespace Z
open PySem PySem.Spec PyProof.Rows L2
theorem ne_strs {H : Hp} {l x : Addr} {p q : Int} {cs : List Str} (hl : H l = some (.lst [.int p, .int q])) (hx : H x = some (.lst (cs.map V.str))) (h : 1 ≤ cs.length) : x ≠ l := by
  intro e
  rw [e, hl] at hx
  cases cs with
  | nil => exact absurd h (by decide)
  | cons c r => injection hx with hx; injection hx with hx; injection hx with hx; cases hx
theorem ne_refs {H : Hp} {l x : Addr} {p q : Int} {qs : List Addr} (hl : H l = some (.lst [.int p, .int q])) (hx : H x = some (.lst (qs.map V.ref))) (h : 1 ≤ qs.length) : x ≠ l := by
  intro e
  rw [e, hl] at hx
  cases qs with
  | nil => exact absurd h (by decide)
  | cons c r => injection hx with hx; injection hx with hx; injection hx with hx; cases hx
theorem PV.wo2 {K : PySem.W.Frag} {CP CD CT : Addr} {H : Hp} {l : Addr} {p q : Int} {v : V} {e : Ent} (hl : H l = some (.lst [.int p, .int q])) (h : PV K CP CD CT H v e) (h1 : 1 ≤ e.2.1.length) (h2 : 1 ≤ e.2.2.length) : PV K CP CD CT (Z.wo l H) v e := by
  obtain ⟨q', rfl, dx', pw, pd, qs, z1, z2, z3, z4⟩ := h
  have l4 := z4.1
  refine ⟨q', rfl, dx', pw, pd, qs, by rw [wo_at (ne_of z1 hl (by intro z; cases z))]; exact z1, by rw [wo_at (ne_strs hl z2 h1)]; exact z2, by rw [wo_at (ne_refs hl z3 (by omega))]; exact z3, z4.wo hl⟩
theorem PVs.wo2 {K : PySem.W.Frag} {CP CD CT : Addr} {H : Hp} {l : Addr} {p q : Int} (hl : H l = some (.lst [.int p, .int q])) : ∀ {vs : List V} {es : List Ent}, PVs K CP CD CT H vs es → (∀ e ∈ es, 1 ≤ e.2.1.length ∧ 1 ≤ e.2.2.length) → PVs K CP CD CT (Z.wo l H) vs es
  | _, _, .nil, _ => .nil
  | _, _, .cons h t, g => .cons (PV.wo2 hl h (g _ List.mem_cons_self).1 (g _ List.mem_cons_self).2) (PVs.wo2 hl t fun e he => g e (List.mem_cons_of_mem _ he))
theorem ProgAw.wo2 {K : PySem.W.Frag} {CG CP CD CT : Addr} {H : Hp} {l g : Addr} {p q : Int} {es : List Ent} {ins : List Str} (hl : H l = some (.lst [.int p, .int q])) (h : ProgAw K CG CP CD CT H g es ins) (gp : GoodP es ins) : ProgAw K CG CP CD CT (Z.wo l H) g es ins := by
  obtain ⟨dx, pl, pt, pg, pw, pn, xs, h1, h2, h3, h4, h5, h6, _⟩ := h
  have le := h3.length
  obtain ⟨e1, e5, made, _, _, _, _, i1, _⟩ := gp
  have hpl : pl ≠ l := by
    intro e
    rw [e, hl] at h2
    cases h3 with
    | nil => exact absurd e1 (by decide)
    | cons hx t =>
      obtain ⟨q', rfl, _⟩ := hx
      injection h2 with h2; injection h2 with h2; injection h2 with h2; cases h2
  have nw : 1 ≤ (allVars es ins).length := by
    cases ins with
    | nil => exact absurd i1 (by decide)
    | cons y r => exact List.length_pos_iff.mpr (List.ne_nil_of_mem (mem_allVars'.mpr (.inl (List.mem_cons_self (a := y)))))
  exact ⟨dx, pl, pt, pg, pw, pn, xs, by rw [wo_at (ne_of h1 hl (by intro z; cases z))]; exact h1, by rw [wo_at hpl]; exact h2, PVs.wo2 hl h3 (fun e he => ⟨(made e he).2.2.2.2.1, (made e he).2.2.2.2.2.2.1⟩), by rw [wo_at (ne_strs hl h4 (by rw [List.length_map]; exact e1))]; exact h4, by rw [wo_at (ne_strs hl h5 i1)]; exact h5, by rw [wo_at (ne_strs hl h6 nw)]; exact h6, trivial⟩
theorem SqT.wo2 {K : PySem.W.Frag} {H : Hp} {l t : Addr} {xs zs : List V} (hl : H l = some (.lst zs)) (h : SqT K H t xs) : SqT K (Z.wo l H) t xs := SqT.tk (wo_tk hl) h
end Z
set_option maxRecDepth 100000
set_option maxHeartbeats 4000000
set_option pp.maxSteps 500
namespace Z
open PySem PySem.Spec PyProof.Rows L2
def Tr.val (h : Str → Int) : Tr → Int
  | .con n => n
  | .var w => h w
  | .cho a b c e => if a.val h = b.val h then c.val h else e.val h
theorem Tr.val_congr {g h : Str → Int} : ∀ t : Tr, (∀ w ∈ t.ws, g w = h w) → t.val g = t.val h
  | .con n, _ => rfl
  | .var w, c => c w (by simp [Tr.ws])
  | .cho a b c e, hc => by
    have m : ∀ w, w ∈ a.ws ∨ w ∈ b.ws ∨ w ∈ c.ws ∨ w ∈ e.ws → w ∈ (Tr.cho a b c e).ws := fun w hw => by
      simp only [Tr.ws, List.mem_append]
      rcases hw with h | h | h | h <;> simp [h]
    unfold Tr.val
    rw [Tr.val_congr a fun w hw => hc w (m w (.inl hw)), Tr.val_congr b fun w hw => hc w (m w (.inr (.inl hw))), Tr.val_congr c fun w hw => hc w (m w (.inr (.inr (.inl hw)))), Tr.val_congr e fun w hw => hc w (m w (.inr (.inr (.inr hw))))]
theorem k_itB : kitB "int" "bool" = some false := by decide +kernel
theorem k_iti : kitB "int" "int" = some true := by decide +kernel
theorem k_sti : kitB "str" "int" = some false := by decide +kernel
theorem k_stb : kitB "str" "bool" = some false := by decide +kernel
theorem k_tti : kitB "tuple" "int" = some false := by decide +kernel
theorem k_ttb : kitB "tuple" "bool" = some false := by decide +kernel
theorem dgS {H : Hp} {d : Addr} {kvs : List (Key × V)} {z : Str} {v : V} (h : H d = some (.dK kvs)) (hv : valV kvs (.inr z) = some v) : DGet H d (.str z) (some v) := .inl ⟨kvs, .inr z, .inl h, rfl, hv.symm⟩
theorem dgI {H : Hp} {d : Addr} {kvs : List (Key × V)} {z : Int} {v : V} (h : H d = some (.dK kvs)) (hv : valV kvs (.inl z) = some v) : DGet H d (.int z) (some v) := .inl ⟨kvs, .inl z, .inl h, rfl, hv.symm⟩
section
variable {P : Program} {w : World} {K : PySem.W.Frag} {mg : Str → Option Value} {base : Heap} {a : Ad}
def spValue (K : PySem.W.Frag) (n : Nat) : Sp := fun vs H Q _ => ∃ (v : V) (d : Addr) (t : Tr) (kvs : List (Key × V)) (h : Str → Int), vs = [v, .ref d] ∧ Dp K H v t.d ∧ t.deep ≤ n ∧ H d = some (.dK kvs) ∧ (∀ w ∈ t.ws, valV kvs (.inr w) = some (.int (h w))) ∧ ∀ H', Same H H' → Q (.int (t.val h)) H'
theorem ok_value (T : Tx P K mg a) : ∀ n : Nat, FnOk P w K mg base CX0 (n + 2) a.f_value_of a.d_value_of ["plan", "values"] (spValue K n)
  | 0 => fnNo fun vs H Q E ⟨v, d, t, kvs, h, _, _, hd, _⟩ => by
    have := deep_pos t
    omega
  | n + 1 => by
    have IH : FnOk P w K mg base CX0 (n + 2) a.f_value_of a.d_value_of ["plan", "values"] (spValue K n) := ok_value T n
    have F1 : FnOk P w K mg base CX0 1 a.f_is_whole a.d_is_whole ["value"] (spWhole K) := ok_whole T
    refine T.value_of.fn.ok sc_value_of (fun vs H Q E h => ?_) (fun cdv A outer s H vs Q E hr h => ?_)
    · obtain ⟨v, d, t, kvs, h, rfl, _⟩ := h
      rfl
    · obtain ⟨v, d, t, kvs, h, rfl, hv, hdp, hd, hw, q⟩ := h
      have nd := sc_value_of.nd
      have hr1 : Room 1 _ := hr.mono (by omega)
      apply Exists.intro
      apply And.intro
      · apply pss_cons
        · exact (ps_if (pt_val (pe_cf T.is_whole F1 hr1 (pa_cons (pv 0) pa_nil))) (pss_one (ps_ret (pv 0))) pss_nil)
        apply pss_cons
        · exact (ps_if (pt_not (pt_val (cb_isi T.bi (pa_cons (pv 0) (pa_cons (gl_ty rfl T.bi.tuple PyProof.Rows.boot_tuple) pa_nil))))) (pss_one (ps_ret (pe_dget hr.un1 (pv 1) (pv 0) (fun _ _ => rfl)))) pss_nil)
        apply pss_cons
        · exact (ps_asg (pv 0) (pg_tup rfl (pgs_cons (pg_name (i := 2) nd rfl (Or.inl rfl)) (pgs_cons (pg_name (i := 3) nd rfl (Or.inl rfl)) (pgs_cons (pg_name (i := 4) nd rfl (Or.inl rfl)) (pgs_cons (pg_name (i := 5) nd rfl (Or.inl rfl)) pgs_nil))))))
        apply pss_one
        exact (ps_ret (pe_cf T.value_of IH hr (pa_cons (pe_ifExp (pt_cmpR (op_eqX hr) (pe_cf T.value_of IH hr (pa_cons (pv 2) (pa_cons (pv 1) pa_nil))) (pe_cf T.value_of IH hr (pa_cons (pv 3) (pa_cons (pv 1) pa_nil))) (nomark _)) (pv 4) (pv 5)) (pa_cons (pv 1) pa_nil))))
      cases t with
      | con m =>
        cases tr_con hv
        refine ⟨_, rfl, .int m, "int", true, false, rfl, .base (.int m), k_iti, k_itB, ⟨_, rfl, ?_⟩⟩
        exact ⟨_, rfl, q _ (Same.refl _)⟩
      | var x =>
        cases tr_var hv
        refine ⟨_, rfl, .str x, "str", false, false, rfl, .base (.str x), k_sti, k_stb, ⟨_, rfl, ?_⟩⟩
        refine ⟨_, rfl, isiTr hv ?_⟩
        refine ⟨_, rfl, ?_⟩
        exact ⟨_, rfl, _, rfl, d, _, rfl, dgS hd (hw x (by simp [Tr.ws])), q _ (Same.refl _)⟩
      | cho a1 b1 c1 e1 =>
        obtain ⟨p, v1, v2, v3, v4, rfl, sq, h1, h2, h3, h4⟩ := tr_cho hv
        have dd : (Tr.cho a1 b1 c1 e1).deep = 1 + max (max a1.deep b1.deep) (max c1.deep e1.deep) := rfl
        have m : ∀ w, w ∈ a1.ws ∨ w ∈ b1.ws ∨ w ∈ c1.ws ∨ w ∈ e1.ws → w ∈ (Tr.cho a1 b1 c1 e1).ws := fun w hw => by
          simp only [Tr.ws, List.mem_append]
          rcases hw with h | h | h | h <;> simp [h]
        have ty : TyX K H (.ref p) (.type "tuple") := tyT sq
        refine ⟨_, rfl, .ref p, "tuple", false, false, rfl, ty, k_tti, k_ttb, ⟨_, rfl, ?_⟩⟩
        refine ⟨_, rfl, isiTr hv ?_⟩
        refine ⟨_, rfl, ?_⟩
        refine ⟨_, rfl, p, _, rfl, sq, rfl, _, _, rfl, _, _, rfl, _, _, rfl, _, _, rfl, rfl, ?_⟩
        refine ⟨_, rfl, _, rfl, v1, d, a1, kvs, h, rfl, h1, by omega, hd, fun w hw' => hw w (m w (.inl hw')), fun H1 s1 => ?_⟩
        refine ⟨_, rfl, _, rfl, v2, d, b1, kvs, h, rfl, tr_same s1 h2, by omega, s1 _ _ hd, fun w hw' => hw w (m w (.inr (.inl hw'))), fun H2 s2 => eqI ⟨_, rfl, ?_⟩⟩
        have s12 := s1.trans s2
        have fin : (Tr.cho a1 b1 c1 e1).val h = if a1.val h = b1.val h then c1.val h else e1.val h := rfl
        by_cases e : a1.val h = b1.val h
        · rw [decide_eq_true e]
          rw [if_pos e] at fin
          refine ⟨_, rfl, _, rfl, v3, d, c1, kvs, h, rfl, tr_same s12 h3, by omega, s12 _ _ hd, fun w hw' => hw w (m w (.inr (.inr (.inl hw')))), fun H3 s3 => ?_⟩
          rw [← fin]
          exact q H3 (s12.trans s3)
        · rw [decide_eq_false e]
          rw [if_neg e] at fin
          refine ⟨_, rfl, _, rfl, v4, d, e1, kvs, h, rfl, tr_same s12 h4, by omega, s12 _ _ hd, fun w hw' => hw w (m w (.inr (.inr (.inr hw')))), fun H3 s3 => ?_⟩
          rw [← fin]
          exact q H3 (s12.trans s3)
end
end Z
set_option maxRecDepth 100000
set_option maxHeartbeats 4000000
set_option pp.maxSteps 500
namespace Z
open PySem PySem.Spec PyProof.Rows L2
def heldK (W : List Str) (h : Str → Int) : List (Key × V) := W.map fun w => (Sum.inr w, V.int (h w))
def awkK (A : List Int) : List (Key × V) := A.map fun z => (Sum.inl z, V.bl true)
def ltK (L : List (Str × Int)) : List (Key × V) := L.map fun p => (Sum.inr p.1, V.int p.2)
def updH (h : Str → Int) (v : Str) (x : Int) : Str → Int := fun w => if w = v then x else h w
def putA (A : List Int) (z : Int) : List Int := if z ∈ A then A else A ++ [z]
def putL (L : List (Str × Int)) (v : Str) (x : Int) : List (Str × Int) := if (L.any fun p => decide (p.1 = v)) = true then L.map (fun p => if p.1 = v then (p.1, x) else p) else L ++ [(v, x)]
def getL (L : List (Str × Int)) (v : Str) : Option Int := (L.find? fun p => decide (p.1 = v)).map (·.2)
theorem held_get {h : Str → Int} {w : Str} : ∀ {W : List Str}, w ∈ W → valV (heldK W h) (.inr w) = some (.int (h w))
  | x :: r, hw => by
    by_cases e : x = w
    · subst e
      exact valV_pos rfl
    · rcases List.mem_cons.mp hw with rfl | hw
      · exact absurd rfl e
      · exact (valV_neg (fun z => e (Sum.inr.inj z))).trans (held_get hw)
theorem held_put {W : List Str} {h : Str → Int} {v : Str} {x : Int} (hv : v ∈ W) : putK (heldK W h) (.inr v) (.int x) = heldK W (updH h v x) := by
  unfold putK
  rw [if_pos]
  · unfold heldK
    rw [List.map_map]
    refine List.map_congr_left fun w _ => ?_
    show (if (Sum.inr w : Key) = .inr v then _ else _) = _
    unfold updH
    by_cases e : w = v
    · rw [if_pos (congrArg _ e), if_pos e]
    · rw [if_neg (fun z => e (Sum.inr.inj z)), if_neg e]
  · rw [List.any_eq_true]
    exact ⟨_, List.mem_map.mpr ⟨v, hv, rfl⟩, decide_eq_true rfl⟩
theorem heldK_len {W : List Str} {h : Str → Int} : (heldK W h).length = W.length := List.length_map ..
theorem awk_put {A : List Int} {z : Int} : putK (awkK A) (.inl z) (.bl true) = awkK (putA A z) := by
  unfold putK putA awkK
  by_cases h : z ∈ A
  · rw [if_pos, if_pos h, List.map_map]
    · refine List.map_congr_left fun y _ => ?_
      show (if (Sum.inl y : Key) = .inl z then _ else _) = _
      by_cases e : y = z
      · rw [if_pos (congrArg _ e)]
      · rw [if_neg (fun q => e (Sum.inl.inj q))]
    · rw [List.any_eq_true]
      exact ⟨_, List.mem_map.mpr ⟨z, h, rfl⟩, decide_eq_true rfl⟩
  · rw [if_neg, if_neg h, List.map_append]
    · rfl
    · rw [List.any_eq_true]
      rintro ⟨p, hp, e⟩
      obtain ⟨y, hy, rfl⟩ := List.mem_map.mp hp
      exact h (Sum.inl.inj (of_decide_eq_true e) ▸ hy)
theorem awk_drop {A : List Int} {z : Int} : dropK (awkK A) (.inl z) = awkK (A.filter fun y => decide (y ≠ z)) := by
  unfold dropK awkK
  rw [List.filter_map]
  congr 1
  refine List.filter_congr fun y _ => ?_
  show decide ((Sum.inl y : Key) ≠ .inl z) = _
  rw [Bool.eq_iff_iff, decide_eq_true_iff, decide_eq_true_iff]
  exact not_congr ⟨Sum.inl.inj, congrArg _⟩
theorem awk_get {A : List Int} {z : Int} (h : z ∈ A) : valV (awkK A) (.inl z) = some (.bl true) := by
  induction A with
  | nil => cases h
  | cons y r ih =>
    by_cases e : y = z
    · subst e; exact valV_pos rfl
    · rcases List.mem_cons.mp h with rfl | h
      · exact absurd rfl e
      · exact (valV_neg (fun q => e (Sum.inl.inj q))).trans (ih h)
theorem lt_put {L : List (Str × Int)} {v : Str} {x : Int} : putK (ltK L) (.inr v) (.int x) = ltK (putL L v x) := by
  have ea : ((ltK L).any fun kv => decide (kv.1 = (Sum.inr v : Key))) = L.any fun p => decide (p.1 = v) := by
    unfold ltK
    rw [List.any_map]
    congr 1
    funext p
    show decide ((Sum.inr p.1 : Key) = .inr v) = _
    rw [Bool.eq_iff_iff, decide_eq_true_iff, decide_eq_true_iff]
    exact ⟨Sum.inr.inj, congrArg _⟩
  unfold putK putL
  rw [ea]
  by_cases h : (L.any fun p => decide (p.1 = v)) = true
  · rw [if_pos h, if_pos h]
    unfold ltK
    rw [List.map_map, List.map_map]
    refine List.map_congr_left fun p _ => ?_
    show (if (Sum.inr p.1 : Key) = .inr v then _ else _) = _
    by_cases e : p.1 = v
    · rw [if_pos (congrArg _ e)]
      show _ = (Sum.inr (if p.1 = v then (p.1, x) else p).1, V.int (if p.1 = v then (p.1, x) else p).2)
      rw [if_pos e]
    · rw [if_neg (fun q => e (Sum.inr.inj q))]
      show _ = (Sum.inr (if p.1 = v then (p.1, x) else p).1, V.int (if p.1 = v then (p.1, x) else p).2)
      rw [if_neg e]
  · rw [if_neg h, if_neg h]
    unfold ltK
    rw [List.map_append]
    rfl
theorem lt_get {v : Str} : ∀ {L : List (Str × Int)}, valV (ltK L) (.inr v) = (getL L v).map V.int
  | [] => rfl
  | p :: r => by
    have ih := lt_get (v := v) (L := r)
    unfold getL at ih ⊢
    by_cases e : p.1 = v
    · rw [List.find?_cons_of_pos (p := fun p : Str × Int => decide (p.1 = v)) (decide_eq_true e)]
      exact valV_pos (congrArg _ e)
    · rw [List.find?_cons_of_neg (p := fun p : Str × Int => decide (p.1 = v)) (by rw [decide_eq_false e]; decide)]
      exact (valV_neg (fun q => e (Sum.inr.inj q))).trans ih
theorem putL_len {L : List (Str × Int)} {v : Str} {x : Int} : (putL L v x).length ≤ L.length + 1 := by
  unfold putL
  split
  · rw [List.length_map]; omega
  · rw [List.length_append]; exact Nat.le_refl _
theorem putA_len {A : List Int} {z : Int} : (putA A z).length ≤ A.length + 1 := by
  unfold putA
  split
  · omega
  · rw [List.length_append]; exact Nat.le_refl _
theorem putA_nodup {A : List Int} {z : Int} (h : A.Nodup) : (putA A z).Nodup := by
  unfold putA
  split
  · exact h
  · rename_i hz
    rw [List.nodup_append]
    refine ⟨h, by simp, fun y hy x hx e => ?_⟩
    rw [List.mem_singleton] at hx
    subst hx
    subst e
    exact hz hy
theorem mem_putA {A : List Int} {z y : Int} : y ∈ putA A z ↔ y ∈ A ∨ y = z := by
  unfold putA
  split
  · rename_i hz
    exact ⟨.inl, fun h => h.elim id fun e => e ▸ hz⟩
  · rw [List.mem_append, List.mem_singleton]
def wrA (A : List Int) (ws : List Int) (o : Option Int) : List Int := ws.foldl (fun A y => if some y = o then A else putA A y) A
def wrS (es : List Ent) (s : (Str → Int) × List Int) (v : Str) (x : Int) (o : Option Int) : (Str → Int) × List Int := if s.1 v = x then s else (updH s.1 v x, wrA s.2 (waitIx es v) o)
def rnS (es : List Ent) (i : Int) (s : ((Str → Int) × List Int) × List (Str × Int)) (d : DD) : ((Str → Int) × List Int) × List (Str × Int) :=
  if d.2.2 then (s.1, putL s.2 d.1 (d.2.1.val s.1.1)) else (wrS es s.1 d.1 (d.2.1.val s.1.1) (some i), s.2)
theorem wrA_nodup {o : Option Int} : ∀ {ws A : List Int}, A.Nodup → (wrA A ws o).Nodup
  | [], _, h => h
  | y :: r, A, h => by
    show (wrA (if some y = o then A else putA A y) r o).Nodup
    split
    · exact wrA_nodup h
    · exact wrA_nodup (putA_nodup h)
theorem mem_wrA {o : Option Int} {z : Int} : ∀ {ws A : List Int}, z ∈ wrA A ws o ↔ z ∈ A ∨ (z ∈ ws ∧ some z ≠ o)
  | [], A => by
    show z ∈ A ↔ _
    simp
  | y :: r, A => by
    show z ∈ wrA (if some y = o then A else putA A y) r o ↔ _
    rw [mem_wrA]
    by_cases e : some y = o
    · rw [if_pos e, List.mem_cons]
      constructor
      · rintro (h | ⟨h1, h2⟩)
        · exact .inl h
        · exact .inr ⟨.inr h1, h2⟩
      · rintro (h | ⟨h1 | h1, h2⟩)
        · exact .inl h
        · exact absurd (h1 ▸ e) h2
        · exact .inr ⟨h1, h2⟩
    · rw [if_neg e, mem_putA, List.mem_cons]
      constructor
      · rintro ((h | h) | ⟨h1, h2⟩)
        · exact .inl h
        · exact .inr ⟨.inl h, h ▸ e⟩
        · exact .inr ⟨.inr h1, h2⟩
      · rintro (h | ⟨h1 | h1, h2⟩)
        · exact .inl (.inl h)
        · exact .inl (.inr h1)
        · exact .inr ⟨h1, h2⟩
theorem plcI_len {A : List Int} {n : Nat} (h : A.Nodup) (hA : ∀ z ∈ A, ∃ i : Nat, i < n ∧ z = (i : Int)) : A.length ≤ n := by
  have := le_cover (l := A) (m := (List.range n).map fun i : Nat => (i : Int)) h fun z hz => by
    obtain ⟨i, hi, rfl⟩ := hA z hz
    exact List.mem_map.mpr ⟨i, List.mem_range.mpr hi, rfl⟩
  rw [List.length_map, List.length_range] at this
  exact this
theorem wait_in {es : List Ent} {v : Str} {z : Int} (h : z ∈ waitIx es v) : ∃ i : Nat, i < es.length ∧ z = (i : Int) := by
  unfold waitIx at h
  obtain ⟨i, h1, _, h3⟩ := mem_selTo.mp h
  exact ⟨i, h1, h3⟩
def pflds2 (p hd ad ld : Addr) : List (Str × V) := [("program", .ref p), ("held", .ref hd), ("awake", .ref ad), ("later", .ref ld)]
def P4 (q hd ad ld b : Addr) : Prop := b = q ∨ b = hd ∨ b = ad ∨ b = ld
def But4 (q hd ad ld : Addr) (H H' : Hp) : Prop := ∀ b o, ¬ P4 q hd ad ld b → H b = some o → H' b = some o
structure PlayAt (G : Hp) (C : Addr) (H : Hp) (q p hd ad ld dx : Addr) (W : List Str) (h : Str → Int) (A : List Int) (L : List (Str × Int)) : Prop where
  hq : H q = some (.ins C dx (pflds2 p hd ad ld))
  hh : H hd = some (.dK (heldK W h))
  hA : H ad = some (.dK (awkK A))
  hL : H ld = some (.dK (ltK L))
  n1 : hd ≠ ad
  n2 : hd ≠ ld
  n3 : ad ≠ ld
  g : ∀ b, P4 q hd ad ld b → G b = none
  s : Same G H
theorem But4.refl {q hd ad ld : Addr} {H : Hp} : But4 q hd ad ld H H := fun _ _ _ e => e
theorem But4.trans {q hd ad ld : Addr} {H1 H2 H3 : Hp} (a : But4 q hd ad ld H1 H2) (b : But4 q hd ad ld H2 H3) : But4 q hd ad ld H1 H3 := fun c o n e => b c o n (a c o n e)
theorem But4.of {q hd ad ld : Addr} {H1 H2 : Hp} (s : Same H1 H2) : But4 q hd ad ld H1 H2 := fun c o _ e => s c o e
theorem But4.upd {q hd ad ld c : Addr} {H : Hp} {o : HO} (h : P4 q hd ad ld c) : But4 q hd ad ld H (upd H c o) := fun b u n e => by rw [upd_ne (fun z => n (by rw [z]; exact h))]; exact e
theorem PlayAt.same {G : Hp} {C : Addr} {H H' : Hp} {q p hd ad ld dx : Addr} {W : List Str} {h : Str → Int} {A : List Int} {L : List (Str × Int)} (s : Same H H') (x : PlayAt G C H q p hd ad ld dx W h A L) : PlayAt G C H' q p hd ad ld dx W h A L :=
  ⟨s _ _ x.hq, s _ _ x.hh, s _ _ x.hA, s _ _ x.hL, x.n1, x.n2, x.n3, x.g, x.s.trans s⟩
theorem PlayAt.upd {G : Hp} {q hd ad ld c : Addr} {H : Hp} {o : HO} (g : ∀ b, P4 q hd ad ld b → G b = none) (s : Same G H) (h : P4 q hd ad ld c) : Same G (upd H c o) := fun b u e => by
  rw [upd_ne (fun z => by rw [z, g c h] at e; cases e)]
  exact s b u e
theorem But4.keep {q hd ad ld : Addr} {H H' : Hp} {b : Addr} {xs : List V} {C dx p : Addr} {W : List Str} {h : Str → Int} {A : List Int} {L : List (Str × Int)} (k : But4 q hd ad ld H H') (hq : H q = some (.ins C dx (pflds2 p hd ad ld))) (hh : H hd = some (.dK (heldK W h))) (ha : H ad = some (.dK (awkK A))) (hl : H ld = some (.dK (ltK L))) (e : H b = some (.lst xs)) : H' b = some (.lst xs) := by
  refine k b _ ?_ e
  rintro (rfl | rfl | rfl | rfl)
  · rw [e] at hq; cases hq
  · rw [e] at hh; cases hh
  · rw [e] at ha; cases ha
  · rw [e] at hl; cases hl
end Z
set_option maxRecDepth 100000
set_option maxHeartbeats 4000000
set_option pp.maxSteps 500
namespace Z
open PySem PySem.Spec PyProof.Rows L2
inductive PlcV : V → Option Int → Prop
  | int (i : Int) : PlcV (.int i) (some i)
  | non : PlcV .non none
theorem nePlc {K : PySem.W.Frag} {H : Hp} {Q : VK} {y : Int} {pv : V} {o : Option Int} (h : PlcV pv o) (q : Q (.bl (!decide (some y = o))) H) : rNeX K (.int y) pv H Q := by
  cases h with
  | int i =>
    refine neI ?_
    have : decide (some y = some i) = decide (y = i) := by
      rw [Bool.eq_iff_iff, decide_eq_true_iff, decide_eq_true_iff]
      exact ⟨Option.some.inj, congrArg _⟩
    rw [this] at q
    exact q
  | non => exact ⟨.inl ⟨rfl, q⟩⟩
theorem wrA_snoc {A ws : List Int} {y : Int} {o : Option Int} : wrA A (ws ++ [y]) o = if some y = o then wrA A ws o else putA (wrA A ws o) y := by
  unfold wrA
  rw [List.foldl_append]
  rfl
theorem sl5 : 5000 ≤ sizeLine := by decide
structure PlayOk (es : List Ent) (A : List Int) : Prop where
  nd : A.Nodup
  plc : ∀ z ∈ A, ∃ i : Nat, i < es.length ∧ z = (i : Int)
theorem PlayOk.wr {es : List Ent} {A : List Int} {v : Str} {o : Option Int} (h : PlayOk es A) (m : Nat) : PlayOk es (wrA A ((waitIx es v).take m) o) :=
  ⟨wrA_nodup h.nd, fun z hz => by
    rcases mem_wrA.mp hz with hz | ⟨hz, _⟩
    · exact h.plc z hz
    · exact wait_in (List.mem_of_mem_take hz)⟩
theorem PlayOk.wrS {es : List Ent} {h : Str → Int} {A : List Int} {v : Str} {x : Int} {o : Option Int} (k : PlayOk es A) : PlayOk es (wrS es (h, A) v x o).2 := by
  unfold Z.wrS
  by_cases e : h v = x
  · rw [if_pos e]; exact k
  · rw [if_neg e]
    have := k.wr (v := v) (o := o) (waitIx es v).length
    rw [List.take_length] at this
    exact this
section
variable {P : Program} {w : World} {K : PySem.W.Frag} {mg : Str → Option Value} {base : Heap} {a : Ad}
def spPlWrite (K : PySem.W.Frag) (CY CG CP CD CT : Addr) : Sp := fun vs H Q _ => ∃ (G : Hp) (q p hd ad ld dx : Addr) (es : List Ent) (ins : List Str) (h : Str → Int) (A : List Int) (L : List (Str × Int)) (v : Str) (x : Int) (pl : V) (o : Option Int),
  vs = [.ref q, .str v, .int x, pl] ∧ PlayAt G CY H q p hd ad ld dx (allVars es ins) h A L ∧ ProgAw K CG CP CD CT G p es ins ∧ GFine es ∧ v ∈ allVars es ins ∧ (allVars es ins).length ≤ 900 ∧ PlayOk es A ∧ PlcV pl o ∧
  ∀ H', But4 q hd ad ld H H' → PlayAt G CY H' q p hd ad ld dx (allVars es ins) (wrS es (h, A) v x o).1 (wrS es (h, A) v x o).2 L → Q .non H'
end
end Z
set_option maxRecDepth 100000
set_option maxHeartbeats 4000000
set_option pp.maxSteps 500
namespace Z
open PySem PySem.Spec PyProof.Rows L2
theorem rd_allVars {es : List Ent} {ins : List Str} {e : Ent} {d : DD} {y : Str} (he : e ∈ es) (hd : d ∈ e.2.2) (hy : y ∈ d.2.1.ws) : y ∈ allVars es ins := by
  rw [mem_allVars']
  refine .inr ?_
  unfold gWs
  refine mem_flat.mpr ⟨e, he, List.mem_append.mpr (.inr ?_)⟩
  unfold gW
  exact mem_flat.mpr ⟨d, hd, List.mem_cons_of_mem _ (mem_ascS.mpr hy)⟩
theorem wr_allVars {es : List Ent} {ins : List Str} {e : Ent} {d : DD} (he : e ∈ es) (hd : d ∈ e.2.2) : d.1 ∈ allVars es ins := by
  rw [mem_allVars']
  exact .inr (gWs_wr he (mem_dWrites.mpr ⟨d, hd, rfl⟩))
def runS (es : List Ent) (i : Int) (ds : List DD) (s : ((Str → Int) × List Int) × List (Str × Int)) : ((Str → Int) × List Int) × List (Str × Int) := ds.foldl (rnS es i) s
theorem runS_snoc {es : List Ent} {i : Int} {ds : List DD} {d : DD} {s : ((Str → Int) × List Int) × List (Str × Int)} : runS es i (ds ++ [d]) s = rnS es i (runS es i ds s) d := by
  unfold runS
  rw [List.foldl_append]
  rfl
theorem rnS_ok {es : List Ent} {i : Int} {d : DD} {s : ((Str → Int) × List Int) × List (Str × Int)} (h : PlayOk es s.1.2) : PlayOk es (rnS es i s d).1.2 := by
  unfold rnS
  split
  · exact h
  · exact h.wrS
theorem rnS_len {es : List Ent} {i : Int} {d : DD} {s : ((Str → Int) × List Int) × List (Str × Int)} : (rnS es i s d).2.length ≤ s.2.length + 1 := by
  unfold rnS
  split
  · exact putL_len
  · exact Nat.le_succ _
theorem runS_ok {es : List Ent} {i : Int} : ∀ {ds : List DD} {s : ((Str → Int) × List Int) × List (Str × Int)}, PlayOk es s.1.2 → PlayOk es (runS es i ds s).1.2
  | [], _, h => h
  | d :: r, s, h => runS_ok (ds := r) (s := rnS es i s d) (rnS_ok h)
theorem runS_len {es : List Ent} {i : Int} : ∀ {ds : List DD} {s : ((Str → Int) × List Int) × List (Str × Int)}, (runS es i ds s).2.length ≤ s.2.length + ds.length
  | [], _ => Nat.le_refl _
  | d :: r, s => by
    have h1 := runS_len (es := es) (i := i) (ds := r) (s := rnS es i s d)
    have h2 := rnS_len (es := es) (i := i) (d := d) (s := s)
    show (runS es i r (rnS es i s d)).2.length ≤ _
    rw [List.length_cons]
    omega
theorem lkY {m : Str} {p hd ad ld : Addr} (h1 : (m == ("program" : Str)) = false := by decide) (h2 : (m == ("held" : Str)) = false := by decide) (h3 : (m == ("awake" : Str)) = false := by decide) (h4 : (m == ("later" : Str)) = false := by decide) : (pflds2 p hd ad ld).lookup m = none := by simp [pflds2, List.lookup, h1, h2, h3, h4]
section
variable {P : Program} {w : World} {K : PySem.W.Frag} {mg : Str → Option Value} {base : Heap} {a : Ad}
def spPDeeds (K : PySem.W.Frag) (CP CD CT : Addr) : Sp := fun vs H Q _ => ∃ G p s wl dl, vs = [.ref p] ∧ Same G H ∧ ProcAt K CP CD CT G p s wl dl ∧ ∀ q qs H', Same H H' → H q = none → H' q = some (.lst (qs.map V.ref)) → DeedsAt K CD CT G qs dl → Q (.ref q) H'
def spPlRuns (K : PySem.W.Frag) (CY CG CP CD CT : Addr) : Sp := fun vs H Q _ => ∃ (G : Hp) (q p hd ad ld dx : Addr) (es : List Ent) (ins : List Str) (h : Str → Int) (A : List Int) (L : List (Str × Int)) (i : Nat) (e : Ent),
  vs = [.ref q, .int (i : Int)] ∧ PlayAt G CY H q p hd ad ld dx (allVars es ins) h A L ∧ ProgAw K CG CP CD CT G p es ins ∧ GFine es ∧ es[i]? = some e ∧ (i : Int) ∈ A ∧ (allVars es ins).length ≤ 900 ∧ PlayOk es A ∧ L.length ≤ 4000 ∧
  ∀ H', But4 q hd ad ld H H' → PlayAt G CY H' q p hd ad ld dx (allVars es ins) (runS es i e.2.2 ((h, A.filter fun y => decide (y ≠ (i : Int))), L)).1.1 (runS es i e.2.2 ((h, A.filter fun y => decide (y ≠ (i : Int))), L)).1.2 (runS es i e.2.2 ((h, A.filter fun y => decide (y ≠ (i : Int))), L)).2 → Q .non H'
end
end Z
set_option maxRecDepth 100000
set_option maxHeartbeats 4000000
set_option pp.maxSteps 500
namespace Z
open PySem PySem.Spec PyProof.Rows L2
def turnS (es : List Ent) (L : List (Str × Int)) (s : (Str → Int) × List Int) : (Str → Int) × List Int := L.foldl (fun s p => wrS es s p.1 p.2 none) s
theorem turnS_snoc {es : List Ent} {L : List (Str × Int)} {p : Str × Int} {s : (Str → Int) × List Int} : turnS es (L ++ [p]) s = wrS es (turnS es L s) p.1 p.2 none := by
  unfold turnS
  rw [List.foldl_append]
  rfl
theorem turnS_ok {es : List Ent} : ∀ {L : List (Str × Int)} {s : (Str → Int) × List Int}, PlayOk es s.2 → PlayOk es (turnS es L s).2
  | [], _, h => h
  | p :: r, s, h => turnS_ok (L := r) (s := wrS es s p.1 p.2 none) h.wrS
section
variable {P : Program} {w : World} {K : PySem.W.Frag} {mg : Str → Option Value} {base : Heap} {a : Ad}
def spPlTurns (K : PySem.W.Frag) (CY CG CP CD CT : Addr) : Sp := fun vs H Q _ => ∃ (G : Hp) (q p hd ad ld dx : Addr) (es : List Ent) (ins : List Str) (h : Str → Int) (A : List Int) (L : List (Str × Int)),
  vs = [.ref q] ∧ PlayAt G CY H q p hd ad ld dx (allVars es ins) h A L ∧ ProgAw K CG CP CD CT G p es ins ∧ GFine es ∧ (allVars es ins).length ≤ 900 ∧ PlayOk es A ∧ (∀ x ∈ L, x.1 ∈ allVars es ins) ∧
  ∀ H' ld', But4 q hd ad ld H H' → H ld' = none → PlayAt G CY H' q p hd ad ld' dx (allVars es ins) (turnS es L (h, A)).1 (turnS es L (h, A)).2 [] → Q .non H'
end
end Z
set_option maxRecDepth 100000
set_option maxHeartbeats 4000000
set_option pp.maxSteps 500
namespace Z
open PySem PySem.Spec PyProof.Rows L2
def lsTo (W : List Str) (L : List (Str × Int)) : Nat → List (Int × Int)
  | 0 => []
  | n + 1 => match W[n]? with
    | none => lsTo W L n
    | some w => match getL L w with
      | none => lsTo W L n
      | some x => lsTo W L n ++ [((n : Int), x)]
theorem lsTo_len {W : List Str} {L : List (Str × Int)} : ∀ n, (lsTo W L n).length ≤ n
  | 0 => Nat.le_refl _
  | n + 1 => by
    have := lsTo_len (W := W) (L := L) n
    unfold lsTo
    split
    · omega
    · split
      · omega
      · rw [List.length_append]
        show _ + 1 ≤ _
        omega
theorem ints_sorted {l A : List Int} (p : l.Perm A) (s : l.Pairwise (· ≤ ·)) (nd : A.Nodup) : l = ascI A := by
  refine ints_asc ?_ fun y => p.mem_iff
  have nl : l.Nodup := p.nodup_iff.mpr nd
  refine List.Pairwise.imp₂ (fun a b h1 h2 => ?_) s nl
  have h2 : a ≠ b := h2
  omega
theorem awk_at {A : List Int} {i : Nat} {z : Int} (h : A[i]? = some z) : (awkK A)[i]? = some (.inl z, .bl true) := by
  unfold awkK
  rw [List.getElem?_map, h]
  rfl
theorem awkK_len {A : List Int} : (awkK A).length = A.length := List.length_map ..
theorem dgO {H : Hp} {d : Addr} {kvs : List (Key × V)} {z : Str} (h : H d = some (.dK kvs)) : DGet H d (.str z) (valV kvs (.inr z)) := .inl ⟨kvs, .inr z, .inl h, rfl, rfl⟩
section
variable {P : Program} {w : World} {K : PySem.W.Frag} {mg : Str → Option Value} {base : Heap} {a : Ad}
def spPlState (K : PySem.W.Frag) (CY CG CP CD CT : Addr) : Sp := fun vs H Q _ => ∃ (G : Hp) (q p hd ad ld dx : Addr) (es : List Ent) (ins : List Str) (h : Str → Int) (A : List Int) (L : List (Str × Int)),
  vs = [.ref q] ∧ PlayAt G CY H q p hd ad ld dx (allVars es ins) h A L ∧ ProgAw K CG CP CD CT G p es ins ∧ (allVars es ins).length ≤ 900 ∧ A.Nodup ∧ A.length < 64 ∧
  ∀ r v aw lt H', Same H H' → StAt K H' r v aw lt (ascI A) (lsTo (allVars es ins) L (allVars es ins).length) → H' v = some (.tup (((allVars es ins).map h).map V.int)) → Q (.ref r) H'
end
end Z
set_option maxRecDepth 100000
set_option maxHeartbeats 4000000
set_option pp.maxSteps 500
namespace Z
open PySem PySem.Spec PyProof.Rows L2
theorem dc_it {J : It} {n : Nat} {G : Hp → Prop} {Y : Nat → Hp → V → Hp → Prop} (w : Walk J n G Y) {g : TG} {tt : TT} {tk tv : TE} {vs : List Nat} {σ : L2.St} {H1 : Hp} {D : Addr} {Qd : Hp → Prop} (Pv : Nat → Hp → Prop) (h0 : Pv 0 (upd H1 D (.dK []))) (hG : ∀ i H, i ≤ n → Pv i H → G H)
    (hs : ∀ i x H H', i < n → Pv i H → Y i H x H' → g x (wipe σ vs) H' fun σ2 H2 => wipe σ2 vs = wipe σ vs ∧ tt σ2 H2 fun b H3 =>
      if b = true then tk σ2 H3 fun y H4 => tv σ2 H4 fun z H5 => ∃ kvs k, y = kV k ∧ H5 D = some (.dK kvs) ∧ kvs.length < sizeLine ∧ Pv (i + 1) (upd H5 D (.dK (putK kvs k z))) else Pv (i + 1) H3) (hd : ∀ H, Pv n H → Qd H) :
    ∃ W : Nat → Nat → Hp → Prop, (∃ m, W 0 m (upd H1 D (.dK []))) ∧ ∀ i m H, W i m H →
      (J.stop i H ∧ Qd H) ∨ (J.go i H ∧ ∃ Nx : Hp → Prop, (∀ H', Nx H' → ∃ m', m' < m ∧ W (i + 1) m' H') ∧ ∀ x H', J.yld i H x H' → g x (wipe σ vs) H' fun σ2 H2 => wipe σ2 vs = wipe σ vs ∧ tt σ2 H2 fun b H3 =>
        if b = true then tk σ2 H3 fun y H4 => tv σ2 H4 fun z H5 => ∃ kvs k, y = kV k ∧ H5 D = some (.dK kvs) ∧ kvs.length < sizeLine ∧ Nx (upd H5 D (.dK (putK kvs k z))) else Nx H3) := by
  refine ⟨fun i m H => m = n - i ∧ i ≤ n ∧ Pv i H, ⟨n, by simp, Nat.zero_le _, h0⟩, ?_⟩
  rintro i m H ⟨rfl, hi, p⟩
  have q := hG i H hi p
  by_cases hlt : i < n
  · refine .inr ⟨w.goes i H hlt q, Pv (i + 1), fun H' p' => ⟨n - (i + 1), by omega, rfl, hlt, p'⟩, fun x H' y => hs i x H H' hlt p (w.yields i H x H' hlt q y)⟩
  · have e : i = n := by omega
    subst e
    exact .inl ⟨w.stops H q, hd H p⟩
def hOf : List Str → List Int → Str → Int
  | w :: W, z :: zs, v => if v = w then z else hOf W zs v
  | _, _, _ => 0
theorem hOf_at : ∀ {W : List Str} {zs : List Int} {i : Nat} {w : Str} {z : Int}, W.Nodup → W[i]? = some w → zs[i]? = some z → hOf W zs w = z
  | [], _, i, w, z, _, h, _ => by simp at h
  | _ :: _, [], i, w, z, _, _, h => by simp at h
  | x :: W, y :: zs, 0, w, z, nd, h1, h2 => by
    have h1 : some x = some w := h1
    have h2 : some y = some z := h2
    cases h1
    cases h2
    exact if_pos rfl
  | x :: W, y :: zs, i + 1, w, z, nd, h1, h2 => by
    have h1 : W[i]? = some w := h1
    have h2 : zs[i]? = some z := h2
    have n := (List.nodup_cons.mp nd).1
    have : w ≠ x := fun e => n (e ▸ List.mem_of_getElem? h1)
    show (if w = x then y else hOf W zs w) = z
    rw [if_neg this]
    exact hOf_at (List.nodup_cons.mp nd).2 h1 h2
theorem hOf_map {W : List Str} {zs : List Int} (nd : W.Nodup) (l : zs.length = W.length) : W.map (hOf W zs) = zs := by
  refine List.ext_getElem? fun i => ?_
  rw [List.getElem?_map]
  by_cases hi : i < W.length
  · have h1 := List.getElem?_eq_getElem hi
    have h2 := List.getElem?_eq_getElem (show i < zs.length by omega)
    rw [h1, h2, Option.map_some, hOf_at nd h1 h2]
  · rw [List.getElem?_eq_none (by omega), List.getElem?_eq_none (by omega)]
    rfl
theorem valV_non {k : Key} : ∀ {kvs : List (Key × V)}, (∀ p ∈ kvs, p.1 ≠ k) → valV kvs k = none
  | [], _ => rfl
  | p :: r, h => (valV_neg (h p List.mem_cons_self)).trans (valV_non fun q hq => h q (List.mem_cons_of_mem _ hq))
theorem held_new {W : List Str} {h : Str → Int} {i : Nat} {w : Str} (nd : W.Nodup) (hw : W[i]? = some w) : valV (heldK (W.take i) h) (.inr w) = none := by
  refine valV_non fun p hp e => ?_
  unfold heldK at hp
  obtain ⟨y, hy, rfl⟩ := List.mem_map.mp hp
  have e : y = w := Sum.inr.inj e
  subst e
  obtain ⟨j, hj⟩ := List.getElem?_of_mem hy
  have hji : j < i := by
    have := (List.getElem?_eq_some_iff.mp hj).1
    rw [List.length_take] at this
    omega
  rw [List.getElem?_take_of_lt hji] at hj
  obtain ⟨a1, a2⟩ := List.getElem?_eq_some_iff.mp hj
  obtain ⟨b1, b2⟩ := List.getElem?_eq_some_iff.mp hw
  have := (List.getElem_inj nd).mp (a2.trans b2.symm)
  omega
def StV (K : PySem.W.Frag) (H : Hp) (s : Addr) (zs ais : List Int) (ls : List (Int × Int)) : Prop := ∃ v aw lt, StAt K H s v aw lt ais ls ∧ SqT K H v (zs.map V.int)
theorem StV.same {K : PySem.W.Frag} {H H' : Hp} {s : Addr} {zs ais : List Int} {ls : List (Int × Int)} (sm : Same H H') (h : StV K H s zs ais ls) : StV K H' s zs ais ls := by
  obtain ⟨v, aw, lt, h1, h2⟩ := h
  exact ⟨v, aw, lt, h1.same sm, SqT.same sm h2⟩
theorem allVars_nd {es : List Ent} {ins : List Str} : (allVars es ins).Nodup := by
  rw [← gWs_all]
  exact Ord.up_nodup Ord.up_asc
section
variable {P : Program} {w : World} {K : PySem.W.Frag} {mg : Str → Option Value} {base : Heap} {a : Ad}
def spValsIn (K : PySem.W.Frag) (CG CP CD CT : Addr) : Sp := fun vs H Q _ => ∃ (G : Hp) (p s : Addr) (es : List Ent) (ins : List Str) (zs ais : List Int) (ls : List (Int × Int)), vs = [.ref p, .ref s] ∧ Same G H ∧ ProgAw K CG CP CD CT G p es ins ∧ StV K G s zs ais ls ∧ zs.length = (allVars es ins).length ∧ zs.length ≤ 900 ∧
  ∀ D H', Same H H' → H D = none → H' D = some (.dK (heldK (allVars es ins) (hOf (allVars es ins) zs))) → Q (.ref D) H'
end
end Z
set_option maxRecDepth 100000
set_option maxHeartbeats 4000000
set_option pp.maxSteps 500
namespace Z
open PySem PySem.Spec PyProof.Rows L2
def wAt (W : List Str) (j : Int) : Str := (W[j.toNat]?).getD ""
theorem wAt_at {W : List Str} {i : Nat} {w : Str} (h : W[i]? = some w) : wAt W (i : Int) = w := by
  unfold wAt
  rw [Int.toNat_natCast, h]
  rfl
def ltOf (W : List Str) (ls : List (Int × Int)) : List (Str × Int) := ls.map fun x => (wAt W x.1, x.2)
structure LsOk (W : List Str) (ls : List (Int × Int)) : Prop where
  nd : (ls.map (·.1)).Nodup
  plc : ∀ x ∈ ls, ∃ i : Nat, i < W.length ∧ x.1 = (i : Int)
theorem LsOk.len {W : List Str} {ls : List (Int × Int)} (h : LsOk W ls) : ls.length ≤ W.length := by
  have := plcI_len (n := W.length) h.nd fun z hz => by
    obtain ⟨x, hx, rfl⟩ := List.mem_map.mp hz
    exact h.plc x hx
  rw [List.length_map] at this
  exact this
theorem lt_new {W : List Str} {ls : List (Int × Int)} {i : Nat} {x : Int × Int} (ndW : W.Nodup) (h : LsOk W ls) (hx : ls[i]? = some x) : valV (ltK (ltOf W (ls.take i))) (.inr (wAt W x.1)) = none := by
  refine valV_non fun p hp e => ?_
  unfold ltK ltOf at hp
  rw [List.map_map] at hp
  obtain ⟨y, hy, rfl⟩ := List.mem_map.mp hp
  have e : wAt W y.1 = wAt W x.1 := Sum.inr.inj e
  obtain ⟨j, hj⟩ := List.getElem?_of_mem hy
  have hji : j < i := by
    have := (List.getElem?_eq_some_iff.mp hj).1
    rw [List.length_take] at this
    omega
  rw [List.getElem?_take_of_lt hji] at hj
  obtain ⟨n, n1, n2⟩ := h.plc y (List.mem_of_getElem? hj)
  obtain ⟨m, m1, m2⟩ := h.plc x (List.mem_of_getElem? hx)
  have g1 := List.getElem?_eq_getElem n1
  have g2 := List.getElem?_eq_getElem m1
  rw [n2, m2, wAt_at g1, wAt_at g2] at e
  have nm := (List.getElem_inj ndW).mp e
  have k1 : (ls.map (·.1))[j]? = some y.1 := by rw [List.getElem?_map, hj]; rfl
  have k2 : (ls.map (·.1))[i]? = some x.1 := by rw [List.getElem?_map, hx]; rfl
  obtain ⟨a1, a2⟩ := List.getElem?_eq_some_iff.mp k1
  obtain ⟨b1, b2⟩ := List.getElem?_eq_some_iff.mp k2
  have : j = i := (List.getElem_inj h.nd).mp (by rw [a2, b2, n2, m2, nm])
  omega
theorem awk_new {A : List Int} {i : Nat} {z : Int} (nd : A.Nodup) (hz : A[i]? = some z) : z ∉ A.take i := by
  intro hm
  obtain ⟨j, hj⟩ := List.getElem?_of_mem hm
  have hji : j < i := by
    have := (List.getElem?_eq_some_iff.mp hj).1
    rw [List.length_take] at this
    omega
  rw [List.getElem?_take_of_lt hji] at hj
  obtain ⟨a1, a2⟩ := List.getElem?_eq_some_iff.mp hj
  obtain ⟨b1, b2⟩ := List.getElem?_eq_some_iff.mp hz
  have : j = i := (List.getElem_inj nd).mp (a2.trans b2.symm)
  omega
theorem ltD_at {ls : List (Int × Int)} {i : Nat} {d : PyData} (h : (ltD ls)[i]? = some d) : ∃ x, ls[i]? = some x ∧ d = .tuple [.int x.1, .int x.2] := by
  unfold ltD at h
  rw [List.getElem?_map] at h
  cases hx : ls[i]? with
  | none => rw [hx] at h; cases h
  | some x =>
    rw [hx] at h
    cases h
    exact ⟨x, rfl, rfl⟩
section
variable {P : Program} {w : World} {K : PySem.W.Frag} {mg : Str → Option Value} {base : Heap} {a : Ad}
def spPlInit (K : PySem.W.Frag) (CY CG CP CD CT : Addr) : Sp := fun vs H Q _ => ∃ (G : Hp) (q p s dx : Addr) (es : List Ent) (ins : List Str) (zs ais : List Int) (ls : List (Int × Int)), vs = [.ref q, .ref p, .ref s] ∧ Same G H ∧ G q = none ∧ H q = some (.ins CY dx []) ∧ ProgAw K CG CP CD CT G p es ins ∧ StV K G s zs ais ls ∧ zs.length = (allVars es ins).length ∧ zs.length ≤ 900 ∧
  ais.Nodup ∧ ais.length ≤ 900 ∧ LsOk (allVars es ins) ls ∧ ∀ H' hd ad ld, PlayAt G CY H' q p hd ad ld dx (allVars es ins) (hOf (allVars es ins) zs) ais (ltOf (allVars es ins) ls) → Q .non H'
end
end Z
set_option maxRecDepth 100000
set_option maxHeartbeats 4000000
set_option pp.maxSteps 500
namespace Z
open PySem PySem.Spec PyProof.Rows L2
inductive NmQ (K : PySem.W.Frag) (H : Hp) : V → Option Str → Prop
  | str (s : Str) : NmQ K H (.str s) (some s)
  | oth {x : V} {ty : String} (h : TyX K H x (.type ty)) (k : kitB ty "str" = some false) : NmQ K H x none
theorem NmQ.same {K : PySem.W.Frag} {H H' : Hp} {v : V} {r : Option Str} (s : Same H H') (h : NmQ K H v r) : NmQ K H' v r := by
  cases h with
  | str s => exact .str s
  | oth h k => exact .oth (tyX_same s h) k
def placeO (ns : List Str) : Option Str → Option Nat
  | none => none
  | some s => if s ∈ ns then some (ns.idxOf s) else none
theorem placeO_at {ns : List Str} {i : Nat} {s : Str} (nd : ns.Nodup) (h : ns[i]? = some s) : placeO ns (some s) = some i := by
  have hm := List.mem_of_getElem? h
  show (if s ∈ ns then some (ns.idxOf s) else none) = _
  rw [if_pos hm]
  obtain ⟨hi, e⟩ := List.getElem?_eq_some_iff.mp h
  have e2 : ns[ns.idxOf s]'(List.idxOf_lt_length_of_mem hm) = s := List.getElem_idxOf _
  exact congrArg some ((List.getElem_inj nd).mp (e2.trans e.symm))
theorem idxStrs {K : PySem.W.Frag} {H : Hp} {Q : VK} {x : Str} {p : Addr} {l : List Str} (h : SqL K H p (l.map V.str)) (m : x ∈ l) (q : Q (.int (l.idxOf x : Nat)) H) : rIndex K (.ref p) [.str x] H Q := by
  have hi := List.idxOf_lt_length_of_mem m
  have e2 : l[l.idxOf x]? = some x := by rw [List.getElem?_eq_getElem hi, List.getElem_idxOf]
  refine ⟨p, _, .str x, l.idxOf x, .str x, rfl, rfl, h, rfl, flat_strs l, by rw [List.getElem?_map, e2]; rfl, by show (x == x) = true; exact beq_self_eq_true x, fun k z' hk hz => ?_, q⟩
  rw [List.getElem?_map] at hz
  cases hl : l[k]? with
  | none => rw [hl] at hz; cases hz
  | some y =>
    rw [hl] at hz
    cases hz
    show (y == x) = false
    have := List.not_of_lt_findIdx (p := fun z => z == x) (xs := l) (i := k) hk
    obtain ⟨hk2, ey⟩ := List.getElem?_eq_some_iff.mp hl
    rw [ey] at this
    exact this
section
variable {P : Program} {w : World} {K : PySem.W.Frag} {mg : Str → Option Value} {base : Heap} {a : Ad}
def spGPlace (K : PySem.W.Frag) (CG CP CD CT X : Addr) : Sp := fun vs H Q E => ∃ p es ins x o, vs = [.ref p, x] ∧ ProgAw K CG CP CD CT H p es ins ∧ NmQ K H x o ∧ (placeO (es.map (·.1)) o = none → FliesF E X "who" H x) ∧ (∀ i H', placeO (es.map (·.1)) o = some i → Same H H' → Q (.int (i : Nat)) H')
end
end Z
set_option maxRecDepth 100000
set_option maxHeartbeats 4000000
set_option pp.maxSteps 500
namespace Z
open PySem PySem.Spec PyProof.Rows L2
abbrev St3 := List Int × List Int × List (Int × Int)
def bhS (es : List Ent) (W : List Str) (s : St3) : Option Nat → St3
  | none => (W.map (turnS es (ltOf W s.2.2) (hOf W s.1, s.2.1)).1, ascI (turnS es (ltOf W s.2.2) (hOf W s.1, s.2.1)).2, lsTo W [] W.length)
  | some i => (W.map (runS es (i : Int) ((es[i]?).elim [] (·.2.2)) ((hOf W s.1, s.2.1.filter fun y => decide (y ≠ (i : Int))), ltOf W s.2.2)).1.1, ascI (runS es (i : Int) ((es[i]?).elim [] (·.2.2)) ((hOf W s.1, s.2.1.filter fun y => decide (y ≠ (i : Int))), ltOf W s.2.2)).1.2,
      lsTo W (runS es (i : Int) ((es[i]?).elim [] (·.2.2)) ((hOf W s.1, s.2.1.filter fun y => decide (y ≠ (i : Int))), ltOf W s.2.2)).2 W.length)
structure StOk (es : List Ent) (W : List Str) (s : St3) : Prop where
  l : s.1.length = W.length
  ok : PlayOk es s.2.1
  ls : LsOk W s.2.2
theorem lsTo_ok {W : List Str} {L : List (Str × Int)} : ∀ n, n ≤ W.length → ((lsTo W L n).map (·.1)).Nodup ∧ ∀ x ∈ lsTo W L n, ∃ i : Nat, i < n ∧ x.1 = (i : Int)
  | 0, _ => ⟨List.nodup_nil, fun x hx => by simp [lsTo] at hx⟩
  | n + 1, h => by
    obtain ⟨i1, i2⟩ := lsTo_ok (W := W) (L := L) n (by omega)
    have i3 : ∀ x ∈ lsTo W L n, ∃ i : Nat, i < n + 1 ∧ x.1 = (i : Int) := fun x hx => by
      obtain ⟨i, a, b⟩ := i2 x hx
      exact ⟨i, by omega, b⟩
    unfold lsTo
    split
    · exact ⟨i1, i3⟩
    · split
      · exact ⟨i1, i3⟩
      · refine ⟨?_, fun x hx => ?_⟩
        · rw [List.map_append, List.nodup_append]
          refine ⟨i1, by simp, fun y hy z hz e => ?_⟩
          obtain ⟨x, hx, rfl⟩ := List.mem_map.mp hy
          obtain ⟨i, a, b⟩ := i2 x hx
          have hz : z = (n : Int) := by simpa using hz
          omega
        · rcases List.mem_append.mp hx with hx | hx
          · exact i3 x hx
          · rw [List.mem_singleton] at hx
            subst hx
            exact ⟨n, by omega, rfl⟩
theorem PlayOk.asc {es : List Ent} {A : List Int} (h : PlayOk es A) : PlayOk es (ascI A) := ⟨Ord.up_nodup Ord.up_asc, fun z hz => h.plc z (mem_ascI.mp hz)⟩
theorem bhS_ok {es : List Ent} {W : List Str} {s : St3} (h : StOk es W s) (o : Option Nat) : StOk es W (bhS es W s o) := by
  cases o with
  | none =>
    obtain ⟨l1, l2⟩ := lsTo_ok (W := W) (L := []) W.length (Nat.le_refl _)
    exact ⟨List.length_map .., (turnS_ok h.ok).asc, ⟨l1, l2⟩⟩
  | some i =>
    obtain ⟨l1, l2⟩ := lsTo_ok (W := W) (L := (runS es (i : Int) ((es[i]?).elim [] (·.2.2)) ((hOf W s.1, s.2.1.filter fun y => decide (y ≠ (i : Int))), ltOf W s.2.2)).2) W.length (Nat.le_refl _)
    have ok1 : PlayOk es (s.2.1.filter fun y => decide (y ≠ (i : Int))) := ⟨h.ok.nd.filter _, fun z hz => h.ok.plc z (List.mem_filter.mp hz).1⟩
    exact ⟨List.length_map .., (runS_ok (s := ((hOf W s.1, s.2.1.filter fun y => decide (y ≠ (i : Int))), ltOf W s.2.2)) ok1).asc, ⟨l1, l2⟩⟩
theorem ltOf_in {W : List Str} {ls : List (Int × Int)} (h : LsOk W ls) : ∀ x ∈ ltOf W ls, x.1 ∈ W := fun x hx => by
  unfold ltOf at hx
  obtain ⟨y, hy, rfl⟩ := List.mem_map.mp hx
  obtain ⟨i, h1, h2⟩ := h.plc y hy
  have g := List.getElem?_eq_getElem h1
  show wAt W y.1 ∈ W
  rw [h2, wAt_at g]
  exact List.mem_of_getElem? g
section
variable {P : Program} {w : World} {K : PySem.W.Frag} {mg : Str → Option Value} {base : Heap} {a : Ad}
def spBehind (K : PySem.W.Frag) (CG CP CD CT : Addr) : Sp := fun vs H Q _ => ∃ (p s : Addr) (es : List Ent) (ins : List Str) (st : St3) (mv : Str) (o : Option Nat), vs = [.ref p, .ref s, .str mv] ∧ ProgAw K CG CP CD CT H p es ins ∧ GFine es ∧ StV K H s st.1 st.2.1 st.2.2 ∧ StOk es (allVars es ins) st ∧ (allVars es ins).length ≤ 900 ∧
  ((mv = "turn" ∧ o = none) ∨ (mv ≠ "turn" ∧ ∃ i : Nat, placeO (es.map (·.1)) (some mv) = some i ∧ (i : Int) ∈ st.2.1 ∧ o = some i)) ∧ ∀ r H', Same H H' → StV K H' r (bhS es (allVars es ins) st o).1 (bhS es (allVars es ins) st o).2.1 (bhS es (allVars es ins) st o).2.2 → Q (.ref r) H'
end
end Z
set_option maxRecDepth 100000
set_option maxHeartbeats 4000000
set_option pp.maxSteps 500
namespace Z
open PySem PySem.Spec PyProof.Rows L2
structure NmOk (es : List Ent) : Prop where
  nd : (es.map (·.1)).Nodup
  nt : ∀ e ∈ es, e.1 ≠ "turn"
def stepO (es : List Ent) (st : St3) (mv : Str) : Option Nat := if st.2.1.isEmpty = true then none else placeO (es.map (·.1)) (some mv)
def stS (es : List Ent) (W : List Str) (st : St3) (mv : Str) : St3 := bhS es W st (stepO es st mv)
theorem stS_ok {es : List Ent} {W : List Str} {st : St3} (h : StOk es W st) (mv : Str) : StOk es W (stS es W st mv) := bhS_ok h _
theorem mv_ok {es : List Ent} {W : List Str} {st : St3} {mv : Str} (nm : NmOk es) (h : StOk es W st) (hm : mv ∈ mvs es st.2.1 st.2.2) : (mv = "turn" ∧ stepO es st mv = none) ∨ (mv ≠ "turn" ∧ ∃ i : Nat, placeO (es.map (·.1)) (some mv) = some i ∧ (i : Int) ∈ st.2.1 ∧ stepO es st mv = some i) := by
  unfold mvs at hm
  by_cases he : st.2.1.isEmpty = true
  · cases hl : st.2.2.isEmpty with
    | true =>
      rw [he, hl] at hm
      have : st.2.1 = [] := List.isEmpty_iff.mp he
      rw [this] at hm
      simp at hm
    | false =>
      rw [he, hl] at hm
      have hm : mv ∈ (["turn"] : List Str) := hm
      rw [List.mem_singleton] at hm
      exact .inl ⟨hm, if_pos he⟩
  · have he : st.2.1.isEmpty = false := by simpa using he
    rw [he] at hm
    have hm : mv ∈ st.2.1.map (nameAt es) := hm
    obtain ⟨z, hz, rfl⟩ := List.mem_map.mp hm
    obtain ⟨i, hi, rfl⟩ := h.ok.plc z hz
    have hE : es[i]? = some es[i] := List.getElem?_eq_getElem hi
    have en : nameAt es (i : Int) = es[i].1 := by
      unfold nameAt
      rw [Int.toNat_natCast, hE]
      rfl
    rw [en]
    have pl : placeO (es.map (·.1)) (some es[i].1) = some i := placeO_at nm.nd (by rw [List.getElem?_map, hE]; rfl)
    refine .inr ⟨nm.nt _ (List.mem_of_getElem? hE), i, pl, hz, ?_⟩
    unfold stepO
    rw [he, if_neg (by decide), pl]
def rnsS (es : List Ent) (W : List Str) (st : St3) (run : List Str) : St3 := run.foldl (stS es W) st
theorem rnsS_snoc {es : List Ent} {W : List Str} {st : St3} {run : List Str} {mv : Str} : rnsS es W st (run ++ [mv]) = stS es W (rnsS es W st run) mv := by
  unfold rnsS
  rw [List.foldl_append]
  rfl
theorem rnsS_ok {es : List Ent} {W : List Str} : ∀ {run : List Str} {st : St3}, StOk es W st → StOk es W (rnsS es W st run)
  | [], _, h => h
  | m :: r, st, h => rnsS_ok (run := r) (stS_ok h m)
def posB (es : List Ent) (W : List Str) : St3 → List Str → Bool
  | _, [] => true
  | st, m :: r => decide (m ∈ mvs es st.2.1 st.2.2) && posB es W (stS es W st m) r
theorem posB_at {es : List Ent} {W : List Str} : ∀ {run : List Str} {st : St3} {i : Nat} {mv : Str}, posB es W st run = true → run[i]? = some mv → mv ∈ mvs es (rnsS es W st (run.take i)).2.1 (rnsS es W st (run.take i)).2.2
  | [], _, i, mv, _, h => by simp at h
  | m :: r, st, 0, mv, hp, h => by
    have h : some m = some mv := h
    cases h
    unfold posB at hp
    rw [Bool.and_eq_true] at hp
    exact of_decide_eq_true hp.1
  | m :: r, st, i + 1, mv, hp, h => by
    unfold posB at hp
    rw [Bool.and_eq_true] at hp
    exact posB_at (run := r) (st := stS es W st m) hp.2 h
theorem ltDp_tk {K : PySem.W.Frag} {H H' : Hp} (k : TK H H') : ∀ {us : List V} {ls : List (Int × Int)}, DpAll K H us (ltD ls) → DpAll K H' us (ltD ls)
  | [], [], _ => .nil
  | u :: us, x :: ls, h => by
    cases h with
    | cons h1 h2 =>
      refine .cons ?_ (ltDp_tk k (ls := ls) h2)
      cases h1 with
      | tup sq al =>
        cases al with | cons a1 al => cases al with | cons a2 al =>
        cases al
        cases a1
        cases a2
        exact .tup (SqT.tk k sq) (.cons (.int _) (.cons (.int _) .nil))
  | [], x :: ls, h => by cases h
  | u :: us, [], h => by cases h
theorem StV.tk {K : PySem.W.Frag} {H H' : Hp} {s : Addr} {zs ais : List Int} {ls : List (Int × Int)} (k : TK H H') (h : StV K H s zs ais ls) : StV K H' s zs ais ls := by
  obtain ⟨v, aw, lt, ⟨h1, h2, h3⟩, h4⟩ := h
  refine ⟨v, aw, lt, ⟨k.tup _ _ h1, SqT.tk k h2, ?_⟩, SqT.tk k h4⟩
  cases h3 with
  | tup sq al => exact .tup (SqT.tk k sq) (ltDp_tk k al)
section
variable {P : Program} {w : World} {K : PySem.W.Frag} {mg : Str → Option Value} {base : Heap} {a : Ad}
def spIsPos (K : PySem.W.Frag) (CG CP CD CT : Addr) : Sp := fun vs H Q _ => ∃ (p s : Addr) (es : List Ent) (ins : List Str) (st : St3) (mv : Str), vs = [.ref p, .ref s, .str mv] ∧ ProgAw K CG CP CD CT H p es ins ∧ GFine es ∧ StV K H s st.1 st.2.1 st.2.2 ∧ StOk es (allVars es ins) st ∧ ∀ H', Same H H' → Q (.bl (decide (mv ∈ mvs es st.2.1 st.2.2))) H'
def spStep (K : PySem.W.Frag) (CG CP CD CT : Addr) : Sp := fun vs H Q _ => ∃ (p s : Addr) (es : List Ent) (ins : List Str) (st : St3) (mv : Str), vs = [.ref p, .ref s, .str mv] ∧ ProgAw K CG CP CD CT H p es ins ∧ GFine es ∧ NmOk es ∧ StV K H s st.1 st.2.1 st.2.2 ∧ StOk es (allVars es ins) st ∧ (allVars es ins).length ≤ 900 ∧
  mv ∈ mvs es st.2.1 st.2.2 ∧ ∀ r H', Same H H' → StV K H' r (stS es (allVars es ins) st mv).1 (stS es (allVars es ins) st mv).2.1 (stS es (allVars es ins) st mv).2.2 → Q (.ref r) H'
end
end Z
set_option maxRecDepth 100000
set_option maxHeartbeats 4000000
set_option pp.maxSteps 500
namespace Z
open PySem PySem.Spec PyProof.Rows L2
def stD (zs ais : List Int) (ls : List (Int × Int)) : PyData := .tuple [.tuple (zs.map PyData.int), .tuple (ais.map PyData.int), .tuple (ltD ls)]
theorem depI1 : ∀ {zs : List Int}, PyData.depthAll (zs.map PyData.int) ≤ 1
  | [] => by simp [PyData.depthAll]
  | z :: zs => by
    have := depI1 (zs := zs)
    simp only [List.map_cons, PyData.depthAll, PyData.depth]
    omega
theorem shaped_stD (zs ais : List Int) (ls : List (Int × Int)) : SeqAt.shaped (stD zs ais ls) = true := by
  have h1 := laysP (ls := ls)
  have h2 := depP (ls := ls)
  have h3 : PyData.canLayAll0 (zs.map PyData.int) = true := laysI
  have h4 : PyData.canLayAll0 (ais.map PyData.int) = true := laysI
  have h5 := depI1 (zs := zs)
  have h6 := depI1 (zs := ais)
  unfold SeqAt.shaped stD
  rw [Bool.and_eq_true_iff]
  constructor
  · simp [PyData.canLay0, PyData.canLayAll0, h1, h3, h4]
  · refine decide_eq_true ?_
    simp only [PyData.depth, PyData.depthAll]
    omega
theorem eqDself {K : PySem.W.Frag} {x y : V} {d : PyData} {H : Hp} {Q : VK} (h1 : Dp K H x d) (h2 : Dp K H y d) (sh : SeqAt.shaped d = true) (q : Q (.bl true) H) : rEqX K x y H Q := by
  have : PyData.canLay0 d = true := by
    unfold SeqAt.shaped at sh
    rw [Bool.and_eq_true] at sh
    exact sh.1
  refine ⟨.inr (.inr ⟨d, d, h1, h2, sh, sh, ?_⟩)⟩
  rw [eqv_self d this]
  exact q
theorem mkProc {K : PySem.W.Frag} {H : Hp} {z : Str} {ws ts : Addr} {wl tx : List Str} {dl : List DD} {CP CD CT X o dx : Addr} {R : VK} {E : XK} (m : EMade (z, wl, dl)) (ht : (dl.map fun d => dtext d.1 d.2.1 d.2.2) = tx) (h1 : H ws = some (.lst (wl.map V.str))) (h2 : H ts = some (.lst (tx.map V.str)))
    (ho : H o = none) (hdx : H dx = none) (ne : dx ≠ o) (q : ∀ H', Same H H' → PV K CP CD CT H' (.ref o) (z, wl, dl) → R .non H') : spPInit K CP CD CT X [.ref o, .str z, .ref ws, .ref ts] (upd (upd H dx (.own o)) o (.ins CP dx [])) R E := by
  obtain ⟨m1, m2, m3, m4, m5, m6, m7, m8, m9⟩ := m
  refine make_proc ho hdx ne m1 m2 (uwl_strs (.inl h1) m3 m4 m5 m6) (dq_texts (.inl ?_) m9 m7 m8) fun H' s hP => q H' s ⟨o, rfl, hP.at⟩
  rw [h2, ← ht, List.map_map]
  rfl
theorem mkProg {K : PySem.W.Frag} {H : Hp} {D ip : Addr} {us : List V} {es : List Ent} {ins : List Str} {CG CP CD CT X o dx : Addr} {R : VK} {E : XK} (g : GoodP es ins) (h1 : H D = some (.lst us)) (h2 : PVs K CP CD CT H us es) (h3 : H ip = some (.lst (ins.map V.str)))
    (no : H o = none) (nx : H dx = none) (ne : dx ≠ o) (q : ∀ H', Same H H' → ProgAw K CG CP CD CT H' o es ins → R .non H') : spGInit K CG CP CD CT X [.ref o, .ref D, .ref ip] (upd (upd H dx (.own o)) o (.ins CG dx [])) R E := by
  obtain ⟨e1, e4, made, fine, hfw, iw, ind, i1, i2⟩ := g
  have s0 : Same H (upd (upd H dx (.own o)) o (.ins CG dx [])) := (sNew nx).trans (sNew (by rw [upd_ne ne.symm]; exact no))
  have ho : (upd (upd H dx (.own o)) o (.ins CG dx [])) o = some (.ins CG dx []) := upd_same
  have but : ∀ {H' : Hp}, But o (upd (upd H dx (.own o)) o (.ins CG dx [])) H' → Same H H' := fun b c u hc => b c u (ne_of_none hc no) (s0 _ _ hc)
  generalize upd (upd H dx (.own o)) o (.ins CG dx []) = H0 at s0 ho but ⊢
  have hx : PsQ K CP CD CT H (.ref D) (some es) := ps_ok (.inl h1) h2 e1 (by omega)
  have hy : InQ K H (.ref ip) (some ins) := in_ok (.inl h3) ind iw i1 (by omega)
  refine ⟨o, dx, .ref D, .ref ip, some es, some ins, rfl, ho, hx.same s0, hy.same s0, fun es' e => by cases e; exact fine, fun part hf => ?_, fun es' ins' H' e1 e2 _ b hP => ?_⟩
  · rw [hfw] at hf
    cases hf
  · cases e1
    cases e2
    exact q H' (but b) hP.aw
theorem GoodP.gf {es : List Ent} {ins : List Str} (h : GoodP es ins) : GFine es := ⟨h.2.1, h.2.2.2.1⟩
theorem GoodP.nm {es : List Ent} {ins : List Str} (h : GoodP es ins) : NmOk es := by
  obtain ⟨e1, e4, made, fine, hfw, iw, ind, i1, i2⟩ := h
  refine ⟨?_, fun e he z => ?_⟩
  · rw [fw_some] at hfw
    by_cases h1 : (es.map (·.1)).Nodup
    · exact h1
    · rw [if_neg h1] at hfw
      cases hfw
  · have := (made e he).1
    rw [z] at this
    revert this
    decide +kernel
theorem st0_ok {es : List Ent} {W : List Str} {zs : List Int} {cs : List Str} (l : zs.length = W.length) : StOk es W (zs, awk es cs, []) := by
  refine ⟨l, ⟨?_, fun z hz => ?_⟩, ⟨List.nodup_nil, fun x hx => by cases hx⟩⟩
  · unfold awk
    exact Ord.up_nodup Ord.up_asc
  · obtain ⟨i, h1, h2⟩ := mem_awk hz
    exact ⟨i, h2, h1⟩
section
variable {P : Program} {w : World} {K : PySem.W.Frag} {mg : Str → Option Value} {base : Heap} {a : Ad}
theorem StV.dp {H : Hp} {s : Addr} {zs ais : List Int} {ls : List (Int × Int)} (h : StV K H s zs ais ls) : Dp K H (.ref s) (stD zs ais ls) := by
  obtain ⟨v, aw, lt, ⟨h1, h2, h3⟩, h4⟩ := h
  exact .tup (.inl (.inl h1)) (.cons (dpTupI h4) (.cons (dpTupI h2) (.cons h3 .nil)))
theorem litS {H : Hp} {s v aw lt : Addr} {zs ais : List Int} {ls : List (Int × Int)} (h1 : H s = some (.tup [.ref v, .ref aw, .ref lt])) (h2 : H v = some (.tup (zs.map V.int))) (h3 : H aw = some (.tup (ais.map V.int))) (h4 : Dp K H (.ref lt) (.tuple (ltD ls))) : Dp K H (.ref s) (stD zs ais ls) :=
  .tup (.inl (.inl h1)) (.cons (dpTupI (.inl (.inl h2))) (.cons (dpTupI (.inl (.inl h3))) (.cons h4 .nil)))
theorem litS0 {H : Hp} {s v aw lt : Addr} {zs ais : List Int} (h1 : H s = some (.tup [.ref v, .ref aw, .ref lt])) (h2 : H v = some (.tup (zs.map V.int))) (h3 : H aw = some (.tup (ais.map V.int))) (h4 : H lt = some (.tup [])) : Dp K H (.ref s) (stD zs ais []) := litS h1 h2 h3 (.tup (.inl (.inl h4)) .nil)
def spAreNumL (K : PySem.W.Frag) : Sp := fun vs H Q _ => ∃ (p : Addr) (zs : List Int) (n : Int), vs = [.ref p, .int n] ∧ Seq K H p (zs.map V.int) ∧ zs.length ≤ 900 ∧ (zs.length : Int) = n ∧ ∀ H', Same H H' → Q (.bl true) H'
theorem tupLT {p : Addr} {ys : List V} {H : Hp} {Q : VK} (h : Seq K H p ys) (q : ∀ l H1, Same H H1 → SqT K H1 l ys → Q (.ref l) H1) : rTupA K [.ref p] H Q := by
  rcases h with h | h
  · exact tupL (.inl (.inl h)) fun l H1 _ s hl => q l H1 s (.inl (.inl hl))
  · exact tupT h (q p H (Same.refl _) h)
def spStartL (K : PySem.W.Frag) (CG CP CD CT : Addr) : Sp := fun vs H Q _ => ∃ (p v q : Addr) (es : List Ent) (ins cs : List Str) (zs : List Int), vs = [.ref p, .ref v, .ref q] ∧ ProgAw K CG CP CD CT H p es ins ∧ GFine es ∧ Seq K H v (zs.map V.int) ∧ zs.length ≤ 900 ∧ zs.length = (allVars es ins).length ∧ Chg K H q cs ins ∧
  ∀ r H', Same H H' → StV K H' r zs (awk es cs) [] → Q (.ref r) H'
end
end Z
set_option maxRecDepth 100000
set_option maxHeartbeats 4000000
set_option pp.maxSteps 500
namespace Z
open PySem PySem.Spec PyProof.Rows L2
def TupZ (H : Hp) (a : Addr) (xs : List V) : Prop := ∃ o : Obj, o.dict = none ∧ H a = some (.frz o (.tup xs))
theorem TupZ.sq {K : PySem.W.Frag} {H : Hp} {a : Addr} {xs : List V} (h : TupZ H a xs) : SqT K H a xs := let ⟨o, _, e⟩ := h; .inl (.inr ⟨o, e⟩)
theorem merged_new {K : Type} [DecidableEq K] : ∀ {more acc : List (K × Value)}, ((acc ++ more).map (·.1)).Nodup → merged acc more = acc ++ more
  | [], acc, _ => by simp [merged]
  | p :: r, acc, h => by
    have e : stored acc p.1 p.2 = acc ++ [p] := by
      unfold stored
      rw [if_neg]
      rw [List.any_eq_true]
      rintro ⟨q, hq, eq⟩
      have eq := of_decide_eq_true eq
      rw [List.map_append, List.nodup_append] at h
      exact h.2.2 q.1 (List.mem_map.mpr ⟨q, hq, rfl⟩) p.1 (by simp) eq
    show merged (stored acc p.1 p.2) r = _
    rw [e, merged_new (by rw [List.append_assoc]; exact h), List.append_assoc]
    rfl
theorem kv_keys {kvs : List (Key × V)} {vs : List (Key × Value)} (h : KV kvs vs) : vs.map (·.1) = kvs.map (·.1) := by
  induction h with
  | nil => rfl
  | cons h t ih =>
    rw [List.map_cons, List.map_cons, ih, h.1]
def PrsAt (H : Hp) (xs : List V) (kvs : List (Key × V)) : Prop := Paired (fun (x : V) (p : Key × V) => ∃ t, x = .ref t ∧ ∃ z, Rd H t (.tup z) ∧ z = [kV p.1, p.2]) xs kvs
def tAt (xs : List V) (j : Nat) : Addr := match xs[j]? with
  | some (.ref t) => t
  | _ => 0
theorem pairs_of {P : Program} {w : World} {H : Hp} {h : Heap} (ok : HOk P w H h) : ∀ {xs : List V} {kvs : List (Key × V)} {its : List Value}, PrsAt H xs kvs → Vals xs its → ∃ (ps : List (Value × Value)) (vs : List (Key × Value)), its.length = ps.length ∧ vs.length = ps.length ∧ KV kvs vs ∧
    (∀ (j : Nat) (k v : Value), ps[j]? = some (k, v) → ∃ t, its[j]? = some (Value.ref t) ∧ xs[j]? = some (V.ref t) ∧ PairAt h t k v ∧ ∃ key, vs[j]? = some (key, v) ∧ keyIs key k = true)
  | [], [], its, _, r => by
    cases r
    exact ⟨[], [], rfl, rfl, .nil, fun j k v e => by simp at e⟩
  | x :: xs, p :: kvs, its, hp, r => by
    cases hp with
    | cons h1 h2 =>
      cases r with
      | cons r1 r2 =>
        obtain ⟨t, rfl, z, hz, rfl⟩ := h1
        cases r1
        obtain ⟨ps, vs, e1, e2, e3, e4⟩ := pairs_of ok h2 r2
        obtain ⟨_, its2, rv, tp⟩ := (show ObjOk P w H h t (.tup [kV p.1, p.2]) from Rd.ok hz ok)
        obtain ⟨u1, u2, rfl, ri, rj⟩ := vals2 rv
        refine ⟨(u1, u2) :: ps, (p.1, u2) :: vs, by rw [List.length_cons, List.length_cons, e1], by rw [List.length_cons, List.length_cons, e2], .cons ⟨rfl, rj⟩ e3, fun j k v e => ?_⟩
        cases j with
        | zero =>
          cases e
          obtain ⟨o, ho, hc, n, hd⟩ := tp
          exact ⟨t, rfl, rfl, .inl ⟨o, ho, hc, n, hd⟩, p.1, rfl, kV_is (P := P) (w := w) ri⟩
        | succ j => exact e4 j k v e
  | [], _ :: _, _, hp, _ => by cases hp
  | _ :: _, [], _, hp, _ => by cases hp
section
variable {X : Cx}
structure rDictP (vs : List V) (H : Hp) (Q : VK) : Prop where
  h : ∃ (a : Addr) (xs : List V) (kvs : List (Key × V)), vs = [V.ref a] ∧ (TupZ H a xs ∨ H a = some (.lst xs)) ∧ PrsAt H xs kvs ∧ (kvs.map (·.1)).Nodup ∧ ∀ d, H d = none → Q (.ref d) (upd H d (.dK kvs))
theorem call_dictP (hc : X.calm = true) : CallR X (.type "dict") rDictP := by
  intro pins s σ H vs us Q I r h
  obtain ⟨a, xs, kvs, rfl, ha, hp, nd, q⟩ := h.h
  obtain rfl := Vals.ref1 r
  have hh : X.A.handled = none := I.ok.hd hc
  have fin : ∀ {its : List Value} {ps : List (Value × Value)} {vs : List (Key × Value)}, xs.length ≤ sizeLine → Vals xs its → its.length = ps.length → vs.length = ps.length → KV kvs vs → ∀ h' tk, h'.DictOf (mixKind X.prog X.w) s.heap.objs.size (merged [] vs) → (∀ b o, b ∉ ([] : List Addr) → s.heap.get? b = some o → h'.get? b = some o) →
      EP X pins σ Q (.ref s.heap.objs.size) { s with heap := h', toks := tk } := fun {its ps vs} hz rv e1 e2 e3 h' tk hd hk => by
    have ndv : ((([] : List (Key × Value)) ++ vs).map (·.1)).Nodup := by rw [List.nil_append, kv_keys e3]; exact nd
    rw [merged_new ndv, List.nil_append] at hd
    have lk : kvs.length = vs.length := Paired.length e3
    have lv := rv.length
    refine ⟨.ref s.heap.objs.size, upd H s.heap.objs.size (.dK kvs), I.laid (t' := tk) (fun b o e => hk b o (by simp) e) (Nat.le_refl _) (dk_new (by omega) (beq_eq_false_iff_ne.mpr (Ne.symm (Nat.ne_of_lt I.big))) e3 hd), rfl, q _ (I.hok.fresh (Nat.le_refl _))⟩
  rcases ha with ⟨o, hod, ha⟩ | ha
  · obtain ⟨ho, hz, its, rv, tp⟩ := (show ObjOk X.prog X.w H s.heap a (.frz o (.tup xs)) from I.hok a _ ha)
    obtain ⟨ps, vs, e1, e2, e3, e4⟩ := pairs_of I.hok hp rv
    obtain ⟨o2, ho2, hcl, n, hdat⟩ := tp
    have : o2 = o := Option.some.inj (ho2.symm.trans ho)
    subst this
    have lv := rv.length
    refine call_dict_pairs (knd := mixKind X.prog X.w) (kvs := vs) (PairArg.tuple a its.toArray (tAt xs) ps) hh ⟨⟨o2, n, ho, hcl, hod, hdat⟩, by simpa using e1, fun j k v e => ?_⟩ ⟨e2, fun i key v e => ?_⟩ (by omega) fun h' tk hd hk => fin hz rv e1 e2 e3 h' tk hd hk
    · obtain ⟨t, f1, f2, f3, _⟩ := e4 j k v e
      have ft : tAt xs j = t := by unfold tAt; rw [f2]
      rw [ft]
      exact ⟨by simpa using f1, f3⟩
    · obtain ⟨t, _, _, _, k, f1, f2⟩ := e4 i key v e
      exact ⟨k, f1, f2⟩
  · obtain ⟨hz, its, n, rv, ho⟩ := I.hok a _ ha
    obtain ⟨ps, vs, e1, e2, e3, e4⟩ := pairs_of I.hok hp rv
    have lv := rv.length
    refine call_dict_pairs (knd := mixKind X.prog X.w) (kvs := vs) (PairArg.list a its.toArray (tAt xs) ps) hh ⟨⟨_, n, ho, rfl, rfl, rfl⟩, by simpa using e1, fun j k v e => ?_⟩ ⟨e2, fun i key v e => ?_⟩ (by omega) fun h' tk hd hk => fin hz rv e1 e2 e3 h' tk hd hk
    · obtain ⟨t, f1, f2, f3, _⟩ := e4 j k v e
      have ft : tAt xs j = t := by unfold tAt; rw [f2]
      rw [ft]
      exact ⟨by simpa using f1, f3⟩
    · obtain ⟨t, _, _, _, k, f1, f2⟩ := e4 i key v e
      exact ⟨k, f1, f2⟩
end
end Z
set_option maxRecDepth 100000
set_option maxHeartbeats 4000000
set_option pp.maxSteps 500
namespace Z
open PySem PySem.Spec PyProof.Rows L2
theorem kv_zip : ∀ {ks : List Key} {ys : List V} {us vs : List Value}, Vals (ks.map kV) us → Vals ys vs → KV (ks.zip ys) (ks.zip vs)
  | [], _, _, _, _, _ => .nil
  | _ :: _, [], _, _, _, _ => by
    rw [List.zip_nil_right]
    rename_i h
    cases h
    rw [List.zip_nil_right]
    exact .nil
  | k :: ks, y :: ys, us, vs, h1, h2 => by
    cases h1 with
    | cons a1 a2 =>
      cases h2 with
      | cons b1 b2 => exact .cons ⟨rfl, b1⟩ (kv_zip a2 b2)
def tDZip (K : PySem.W.Frag) (ta : TA) : TE := fun σ H Q => ta σ H fun vs H1 => ∃ (a b : Addr) (ks : List Key) (ys : List V), vs = [.ref a, .ref b] ∧ SqL K H1 a (ks.map kV) ∧ SqL K H1 b ys ∧ ks.length = ys.length ∧ ks.Nodup ∧ ∀ d, H1 d = none → Q (.ref d) (upd H1 d (.dK (ks.zip ys)))
section
variable {X : Cx} {e e2 : Expr} {ta : TA} {p p2 pos pos2 : Pos}
theorem pe_dictZip (hc : X.calm = true) (hg0 : Gl X "dict") (hm0 : X.mg "dict" = none) (hg : Gl X "zip") (hm : X.mg "zip" = none) (ha : PA X [e, e2] ta)
    (hs0 : starEach [.Call (.Name "zip" p2) [e, e2] [] pos2] X.env = (false, eval (.Call (.Name "zip" p2) [e, e2] [] pos2) X.env) :: starEach [] X.env := by rfl)
    (hs : starEach [e, e2] X.env = (false, eval e X.env) :: starEach [e2] X.env := by rfl) (hpl : (backTo pos2 (starEach [e2] X.env)).any (·.1) = false := by rfl) :
    PE X (.Call (.Name "dict" p) [.Call (.Name "zip" p2) [e, e2] [] pos2] [] pos) (tDZip X.K ta) := by
  refine ⟨fun pins s σ H Q I h => ?_⟩
  refine wpAny_Call_Name_kw (ld_blt I hg0 hm0 PyProof.Rows.boot_dict ?_)
  refine PyProof.Rows.callWith_type1 ?_ hs0 rfl
  rw [hs0]
  show wpAny _ _ (spliced ((false, eval (.Call (.Name "zip" p2) [e, e2] [] pos2) X.env) :: backTo pos (starEach [] X.env))) _ _ s
  refine Calls.spliced_cons ?_
  refine Call_ (ld_blt I hg hm PyProof.Rows.boot_zip (PyProof.Rows.callWith_type1 (thn (ha.run pos2 pins s σ H _ I h) fun us s1 ⟨vs, H1, I1, r1, q1⟩ => ?_) hs hpl))
  obtain ⟨a, b, ks, ys, ex, hqx, hqy, hl, nd, q⟩ := q1
  subst ex
  have hh : X.A.handled = none := I1.ok.hd hc
  cases r1 with
  | cons r rr =>
    cases rr with
    | cons r' rr =>
      cases rr
      cases r
      cases r'
      obtain ⟨its, rv, p1, z1⟩ := I1.list hqx
      obtain ⟨its2, rv2, p2, z2⟩ := I1.list hqy
      have la : a < s1.heap.objs.size := p1.lt
      have lb : b < s1.heap.objs.size := p2.lt
      have li := rv.length
      have li2 := rv2.length
      rw [List.length_map] at li
      refine call_zip_2 p1.isList p2.isList fun h' hz hTI hTO h1 h2 hsz hk => ?_
      refine Calls.spliced_nil ?_
      have kv := kv_zip rv rv2
      have l3 : (ks.zip its2).length = min its.toArray.size its2.toArray.size := by
        rw [List.length_zip, List.size_toArray, List.size_toArray]
        omega
      refine call_dict_pairs (s := { s1 with heap := h' }) (knd := mixKind X.prog X.w) (kvs := ks.zip its2)
        (PairArg.zip (s1.heap.objs.size + 4) (s1.heap.objs.size + 2) (s1.heap.objs.size + 3) s1.heap.objs.size (s1.heap.objs.size + 1) a b (PySem.W.ktu_apart s1.heap.objs.size a b la lb) its.toArray its2.toArray)
        hh ⟨hz, hTI, ⟨_, _, hTO⟩, h1, h2, p1.isList.at (fun o e => hk _ o e), p2.isList.at (fun o e => hk _ o e)⟩ ⟨l3, fun i key v ⟨g1, g2⟩ => ?_⟩ ?_ fun h'' tk hd hk2 => ?_
      · have g1 : its[i]? = some key := by simpa using g1
        have g2 : its2[i]? = some v := by simpa using g2
        have hi := (List.getElem?_eq_some_iff.mp g1).1
        have hki : ks[i]? = some ks[i] := List.getElem?_eq_getElem (by omega)
        refine ⟨ks[i], List.getElem?_zip_eq_some.mpr ⟨hki, g2⟩, ?_⟩
        obtain ⟨u, gu, ru⟩ := rv.get (show (ks.map kV)[i]? = some (kV ks[i]) by rw [List.getElem?_map, hki]; rfl)
        have : u = key := Option.some.inj (gu.symm.trans g1)
        subst this
        exact kV_is (P := X.prog) (w := X.w) ru
      · rw [List.size_toArray, List.size_toArray]
        rw [List.length_map] at z1
        omega
      · have ndv : ((([] : List (Key × Value)) ++ ks.zip its2).map (·.1)).Nodup := by
          rw [List.nil_append, kv_keys kv, List.map_fst_zip (by omega)]
          exact nd
        rw [merged_new ndv, List.nil_append] at hd
        have hd : h''.DictOf (mixKind X.prog X.w) h'.objs.size (ks.zip its2) := hd
        have big : s1.heap.objs.size ≤ h'.objs.size := by omega
        have hfr : H1 h'.objs.size = none := I1.hok.fresh big
        refine ⟨.ref h'.objs.size, upd H1 h'.objs.size (.dK (ks.zip ys)), I1.laid (t' := tk) (fun b o e => hk2 b o ?_ (hk b o e)) big (dk_new ?_ (beq_eq_false_iff_ne.mpr ?_) kv hd), rfl, q _ hfr⟩
        · have hlt := Heap.lt_size e
          intro hb
          simp only [List.mem_cons, List.not_mem_nil, or_false] at hb
          rcases hb with z | z | z | z
          · exact Nat.ne_of_lt (Nat.lt_of_lt_of_le hlt (Nat.le_add_right _ _)) z
          · exact Nat.ne_of_lt (Nat.lt_of_lt_of_le hlt (Nat.le_add_right _ _)) z
          · exact Nat.ne_of_lt hlt z
          · exact Nat.ne_of_lt (Nat.lt_of_lt_of_le hlt (Nat.le_add_right _ _)) z
        · rw [List.length_zip]
          rw [List.length_map] at z1
          omega
        · exact Ne.symm (Nat.ne_of_lt (Nat.lt_of_lt_of_le I1.big big))
end
end Z
set_option maxRecDepth 100000
set_option maxHeartbeats 4000000
set_option pp.maxSteps 500
namespace Z
open PySem PySem.Spec PyProof.Rows L2
def tTupZ (t : TA) : TE := fun σ H Q => t σ H fun xs H1 => xs.length ≤ sizeLine ∧ ∀ p o, H1 p = none → o.dict = none → Q (.ref p) (upd H1 p (.frz o (.tup xs)))
theorem tz_at {H : Hp} {p : Addr} {o : Obj} {xs : List V} (h : o.dict = none) : TupZ (upd H p (.frz o (.tup xs))) p xs := ⟨o, h, upd_same⟩
theorem TupZ.same {H H' : Hp} {a : Addr} {xs : List V} (s : Same H H') (h : TupZ H a xs) : TupZ H' a xs := let ⟨o, e, h⟩ := h; ⟨o, e, s _ _ h⟩
section
variable {X : Cx}
theorem pe_tupZ {es : List Expr} {t : TA} {pos : Pos} {x1} (h : PA X es t) : PE X (.Tuple es x1 pos) (tTupZ t) := by
  refine ⟨fun pins s σ H Q I hq => ?_⟩
  refine wpAny_Tuple_spliced (thn (h.run pos pins s σ H _ I hq) fun us s1 ⟨xs, H1, I1, r, z, q⟩ => ⟨by rw [← r.length]; exact z, ?_⟩)
  have hf : H1 s1.heap.objs.size = none := I1.hok.fresh (Nat.le_refl _)
  refine ⟨.ref s1.heap.objs.size, upd H1 s1.heap.objs.size (.frz { cls := .type "tuple", data := .seq us.toArray } (.tup xs)), I1.laid (t' := s1.toks) (fun b u e => Heap.get?_push_of_some _ e) (Nat.le_refl _) ?_, rfl, q _ _ hf rfl⟩
  exact ⟨Heap.get?_push_size _ rfl, z, us, r, ⟨_, Heap.get?_push_size _ rfl, rfl, _, rfl⟩⟩
structure rTupZ (K : PySem.W.Frag) (vs : List V) (H : Hp) (Q : VK) : Prop where
  h : ∃ p ys, vs = [V.ref p] ∧ SqL K H p ys ∧ ∀ l o, H l = none → o.dict = none → Q (.ref l) (upd H l (.frz o (.tup ys)))
theorem call_tupZ : CallR X (.type "tuple") (rTupZ X.K) := by
  intro pins s σ H xs us Q I r h
  obtain ⟨p, ys, rfl, hq, q⟩ := h.h
  obtain ⟨u, rfl, rx⟩ := vals1 r
  cases rx
  obtain ⟨its, r', pl, hz⟩ := I.list hq
  have hlen := r'.length
  refine call_tuple_list pl.isList (fun h' kp => ?_) (by simp only [List.size_toArray] <;> omega)
  have I1 : Inv X pins σ H { s with heap := h' } := I.kept (t' := s.toks) kp
  have I2 : Inv X pins σ (upd H h'.objs.size (.frz { cls := .type "tuple", data := .seq its.toArray } (.tup ys))) { s with heap := h'.push { cls := .type "tuple", data := .seq its.toArray } } :=
    I1.laid (t' := s.toks) (fun b o e => Heap.get?_push_of_some _ e) (Nat.le_refl _) ⟨Heap.get?_push_size _ rfl, hz, its, r', IsTup.new _ _⟩
  exact ⟨.ref h'.objs.size, _, I2, rfl, q _ _ (I1.hok.fresh (Nat.le_refl _)) rfl⟩
def rItemsK : V → List V → Hp → VK → Prop := fun x xs H Q => ∃ (a : Addr) (kvs : List (Key × V)), x = .ref a ∧ xs = [] ∧ H a = some (.dK kvs) ∧ ∀ p, H p = none → Q (.ref p) (upd H p (DX.itemsO p a))
theorem mt_itemsK : MtR X "dict.items" rItemsK := by
  intro pins s σ H x xs v us Q I rx rxs h
  obtain ⟨a, kvs, rfl, rfl, ha, q⟩ := h
  cases rx
  cases rxs
  obtain ⟨z, hd, vs, rel, o, es, ep, ho, hx, hdat, _⟩ := dk_of I.hok ha
  refine DT.callItems (es := es) (ep := ep) hd ⟨o, ho, hx, hdat⟩ ?_
  have hf : H s.heap.objs.size = none := I.hok.fresh (Nat.le_refl _)
  exact ⟨.ref s.heap.objs.size, upd H s.heap.objs.size (DX.itemsO s.heap.objs.size a), I.laid (t' := s.toks) (fun b u e => Heap.get?_push_of_some _ e) (Nat.le_refl _) (DX.itemsO_ok (Heap.get?_push_size _ rfl)), rfl, q _ hf⟩
end
end Z
set_option maxRecDepth 100000
set_option maxHeartbeats 4000000
set_option pp.maxSteps 500
namespace Z
open PySem PySem.Spec PyProof.Rows L2
theorem pairs_get {P : Program} {w : World} {K : Type} [DecidableEq K] {knd : KeyKind P w K} : ∀ {es : List DictEntry} {vs : List (K × Value)}, Pairs knd es vs → ∀ {j : Nat} {e : DictEntry}, es[j]? = some e → ∃ kv, vs[j]? = some kv ∧ knd.is kv.1 e.key = true ∧ e.val = kv.2
  | _, _, .nil, j, e, h => by simp at h
  | _, _, .cons a b r, 0, e, h => by
    cases h
    exact ⟨_, rfl, a, b⟩
  | _, _, .cons a b r, j + 1, e, h => pairs_get r h
theorem pairs_len {P : Program} {w : World} {K : Type} [DecidableEq K] {knd : KeyKind P w K} : ∀ {es : List DictEntry} {vs : List (K × Value)}, Pairs knd es vs → es.length = vs.length
  | _, _, .nil => rfl
  | _, _, .cons a b r => by rw [List.length_cons, List.length_cons, pairs_len r]
def kB (as : List Addr) (kvs : List (Int × Int)) (b : Addr) : Int × Int := kvs.getD (as.idxOf b) (0, 0)
def kOf (as : List Addr) (kvs : List (Int × Int)) : Value → Int × Int
  | .ref b => kB as kvs b
  | _ => (0, 0)
theorem kB_at {as : List Addr} {kvs : List (Int × Int)} {j : Nat} {b : Addr} {e : Int × Int} (nd : as.Nodup) (h1 : as[j]? = some b) (h2 : kvs[j]? = some e) : kB as kvs b = e := by
  have hm := List.mem_of_getElem? h1
  obtain ⟨hi, eb⟩ := List.getElem?_eq_some_iff.mp h1
  have e2 : as[as.idxOf b]'(List.idxOf_lt_length_of_mem hm) = b := List.getElem_idxOf _
  have e3 : as.idxOf b = j := (List.getElem_inj nd).mp (e2.trans eb.symm)
  unfold kB
  rw [e3, List.getD_eq_getElem?_getD, h2]
  rfl
theorem kB_map {as : List Addr} {kvs : List (Int × Int)} (nd : as.Nodup) (l : as.length = kvs.length) : as.map (kB as kvs) = kvs := by
  refine List.ext_getElem? fun j => ?_
  rw [List.getElem?_map]
  by_cases hj : j < as.length
  · have h1 := List.getElem?_eq_getElem hj
    have h2 := List.getElem?_eq_getElem (show j < kvs.length by omega)
    rw [h1, h2, Option.map_some, kB_at nd h1 h2]
  · rw [List.getElem?_eq_none (by omega), List.getElem?_eq_none (by omega)]
    rfl
def addrOf : Value → Addr
  | .ref b => b
  | _ => 0
abbrev entI (e : Int × Int) : Key × V := (Sum.inl e.1, V.int e.2)
structure rSortItK (vs : List V) (H : Hp) (Q : VK) : Prop where
  h : ∃ (p a : Addr) (kvs : List (Int × Int)), vs = [V.ref p] ∧ H p = some (DX.itemsO p a) ∧ H a = some (.dK (kvs.map entI)) ∧
    ∀ (H' : Hp) (l : Addr) (ps : List (Addr × Int × Int)), Same H H' → H l = none → (ps.map (·.2)).Perm kvs → (ps.map (·.2)).Pairwise (fun e f => SrtO.lexB f e = false) → H' l = some (.lst (ps.map fun z => V.ref z.1)) → (∀ z ∈ ps, H' z.1 = some (.tup [.int z.2.1, .int z.2.2])) → Q (.ref l) H'
section
variable {X : Cx}
theorem cr_sortItK (hc : X.calm = true) : CallR X (.builtin "sorted") rSortItK := by
  intro pins s σ H xs us Q I r h
  obtain ⟨p, a, kvs, rfl, hp, ha, q⟩ := h.h
  obtain rfl := Vals.ref1 r
  have view : s.heap.IsItemsView p a := (show ObjOk X.prog X.w H s.heap p (DX.itemsO p a) from I.hok p _ hp).1
  obtain ⟨z, hd, vs, rel, o, es, ep, ho, hx, hdat, _, hps, hn⟩ := dk_of I.hok ha
  have l1 : (kvs.map entI).length = vs.length := Paired.length rel
  rw [List.length_map] at l1 z
  have l2 : es.size = vs.length := by rw [← Array.length_toList]; exact pairs_len hps
  have hh : X.A.handled = none := I.ok.hd hc
  refine DT.sortedI (es := es) (ep := ep) hh view ⟨o, ho, hx, hdat⟩ (by omega) fun h' tk as hk hlt hl hG => ?_
  have lak : as.length = kvs.length := by omega
  have nd : as.Nodup := List.Pairwise.imp (fun h => Nat.ne_of_lt h) hG.rise
  have pr : ∀ (j : Nat) (b : Addr), as[j]? = some b → ∃ (e : Int × Int) (t u : Tok), kvs[j]? = some e ∧ h'.get? b = some { cls := .type "tuple", data := .seq #[Value.int e.1 t, Value.int e.2 u] } := by
    intro j b hj
    obtain ⟨en, he, hg⟩ := hG.pairs j b hj
    obtain ⟨kv, g1, g2, g3⟩ := pairs_get hps (show es.toList[j]? = some en by rw [Array.getElem?_toList]; exact he)
    obtain ⟨e0, he0, r1, r2⟩ := DX.pget rel g1
    rw [List.getElem?_map] at he0
    cases hkj : kvs[j]? with
    | none =>
      rw [hkj] at he0
      exact nomatch (show (none : Option (Key × V)) = some e0 from he0)
    | some e =>
      rw [hkj] at he0
      have ee : entI e = e0 := Option.some.inj he0
      subst ee
      have r1 : Sum.inl e.1 = kv.1 := r1
      rw [← r1] at g2
      have g2 : keyIs (Sum.inl e.1) en.key = true := g2
      obtain ⟨u, hu⟩ := (show ∃ u, kv.2 = Value.int e.2 u from r2)
      rcases keyIs_shape g2 with ⟨i, t, e1, e2⟩ | ⟨x, t, e1, _⟩
      · cases e1
        refine ⟨e, t, u, rfl, ?_⟩
        rw [hg, e2, g3, hu]
      · cases e1
  have hob : (h'.push { cls := .type "list", data := .seq (as.map Value.ref).toArray }).get? h'.objs.size = some (seqObj "list" (as.map Value.ref).toArray 0) := Heap.get?_push_size _ rfl
  have kb : ∀ b o, s.heap.get? b = some o → (h'.push { cls := .type "list", data := .seq (as.map Value.ref).toArray }).get? b = some o := fun b o e => Heap.get?_push_of_some _ (hk b o e)
  have ne0 : ∀ b o, h'.get? b = some o → b ≠ h'.objs.size := fun b o e => Nat.ne_of_lt (Heap.lt_size e)
  generalize hh2 : h'.push { cls := .type "list", data := .seq (as.map Value.ref).toArray } = h2 at hob kb ⊢
  have ka : ∀ b o, h'.get? b = some o → h2.get? b = some o := fun b o e => by rw [← hh2]; exact Heap.get?_push_of_some _ e
  have hpair : ∀ v ∈ as.map Value.ref, Srt.IsPair h2 v (kOf as kvs v).1 (kOf as kvs v).2 := by
    intro v hv
    obtain ⟨b, hb, rfl⟩ := List.mem_map.mp hv
    obtain ⟨j, hj⟩ := List.mem_iff_getElem?.mp hb
    obtain ⟨e, t, u, he, hg⟩ := pr j b hj
    have : kOf as kvs (.ref b) = e := kB_at nd hj he
    rw [this]
    exact ⟨b, _, t, u, 0, rfl, ka _ _ hg, rfl, rfl⟩
  refine wpAny_call_entry PyProof.Rows.slot_list_sort ⟨_, hob, rfl⟩ PyProof.Rows.entry_list_sort
    (SrtO.list_sort_ord (s := { s with heap := h2, toks := tk }) (SrtO.swo_lex (kOf as kvs)) hob (by rw [List.length_map]; omega) (fun hlen => SrtO.pairs_sortableO (s := { s with heap := h2, toks := tk }) (k := kOf as kvs) (by omega) hpair fun o e => ?_) fun out o1 o2 => ⟨.none, rfl, ?_⟩) (PyProof.Rows.args_list_sort _)
  · have e' : some o = some (seqObj "list" (as.map Value.ref).toArray 0) := e.symm.trans hob
    cases e'
    intro c
    exact absurd (Value.type.inj c) (by decide)
  · show EP X pins σ Q (.ref h'.objs.size) { s with heap := sortedHeap h2 h'.objs.size (as.map Value.ref) out.toArray, toks := tk }
    have hrf : ∀ v ∈ out, v = Value.ref (addrOf v) := fun v hv => by
      obtain ⟨b, _, rfl⟩ := List.mem_map.mp (o2.perm.mem_iff.mp hv)
      rfl
    have hout : out = (out.map addrOf).map Value.ref := by
      rw [List.map_map]
      exact (List.map_id out).symm.trans (List.map_congr_left fun v hv => hrf v hv)
    have pz : (out.map addrOf).Perm as := by
      have := o2.perm.map addrOf
      rw [List.map_map] at this
      have e : as.map (addrOf ∘ Value.ref) = as := (List.map_congr_left fun b _ => rfl).trans (List.map_id as)
      rw [e] at this
      exact this
    generalize out.map addrOf = zs at hout pz
    subst hout
    have sz : zs.Pairwise (fun b c => SrtO.lexB (kB as kvs c) (kB as kvs b) = false) := List.pairwise_map.mp o1
    have kF : ∀ b o, b ≠ h'.objs.size → h2.get? b = some o → (sortedHeap h2 h'.objs.size (as.map Value.ref) (zs.map Value.ref).toArray).get? b = some o := fun b o hb e => (PyProof.Rows.sortedHeap_old hb (Heap.lt_size e)).trans e
    have kS : ∀ b o, s.heap.get? b = some o → (sortedHeap h2 h'.objs.size (as.map Value.ref) (zs.map Value.ref).toArray).get? b = some o := fun b o e => kF b o (ne0 _ _ (hk b o e)) (kb b o e)
    obtain ⟨eF, heF⟩ := PyProof.Rows.sortedHeap_at (vs := as.map Value.ref) (out := (zs.map Value.ref).toArray) hob
    generalize hh3 : sortedHeap h2 h'.objs.size (as.map Value.ref) (zs.map Value.ref).toArray = h3 at kF kS heF ⊢
    have I1 : Inv X pins σ H { s with heap := h3, toks := tk } := I.kept (t' := tk) kS
    have hn0 : H h'.objs.size = none := I.hok.fresh (Nat.le_of_lt hlt)
    have lz : zs.length = as.length := pz.length_eq
    have I2 : Inv X pins σ (upd H h'.objs.size (.lst (zs.map V.ref))) { s with heap := h3, toks := tk } :=
      I1.take (h' := h3) (t' := tk) (fun b ob _ e => e) (I.fpOk (Nat.le_of_lt hlt) hn0) ⟨by rw [List.length_map]; omega, zs.map Value.ref, eF, LiI.vals_refs zs, heF⟩
    obtain ⟨H2, I3, g, qt⟩ := DX.takeT (P := fun b vs => vs = [.int (kB as kvs b).1, .int (kB as kvs b).2]) I as _ I2 nd fun b hb => by
      obtain ⟨j, hj⟩ := List.mem_iff_getElem?.mp hb
      obtain ⟨e, t, u, he, hg⟩ := pr j b hj
      have hbl : s.heap.objs.size ≤ b := Nat.le_of_lt (hG.above b hb)
      have ek : kB as kvs b = e := kB_at nd hj he
      refine ⟨hbl, ?_, _, rfl, fun H3 => ⟨(by rw [sizeLine_eq]; show 2 ≤ 16777216; omega), [Value.int e.1 t, Value.int e.2 u], .cons ⟨t, by rw [ek]⟩ (.cons ⟨u, by rw [ek]⟩ .nil), ⟨_, kF _ _ (ne0 _ _ hg) (ka _ _ hg), rfl, 0, rfl⟩⟩⟩
      rw [upd_ne (ne0 _ _ hg)]
      exact I.hok.fresh hbl
    have gr : Same H H2 := fun b o e => g b o (by rw [upd_ne (ne_of_none e hn0)]; exact e)
    have em : (zs.map fun b => (b, kB as kvs b)).map (fun z => V.ref z.1) = zs.map V.ref := by rw [List.map_map]; rfl
    have em2 : (zs.map fun b => (b, kB as kvs b)).map (·.2) = zs.map (kB as kvs) := by rw [List.map_map]; rfl
    refine ⟨.ref h'.objs.size, H2, I3, rfl, q H2 h'.objs.size (zs.map fun b => (b, kB as kvs b)) gr hn0 ?_ ?_ (by rw [em]; exact g _ _ upd_same) fun z' hz' => ?_⟩
    · rw [em2]
      have := pz.map (kB as kvs)
      rw [kB_map nd lak] at this
      exact this
    · rw [em2, List.pairwise_map]
      exact sz
    · obtain ⟨b, hb, rfl⟩ := List.mem_map.mp hz'
      obtain ⟨vs', ev, hH⟩ := qt b (pz.mem_iff.mp hb)
      rw [ev] at hH
      exact hH
end
end Z
set_option maxRecDepth 100000
set_option maxHeartbeats 4000000
set_option pp.maxSteps 500
namespace Z
open PySem PySem.Spec PyProof.Rows L2
theorem sub_snoc {α : Type} {xs ys : List α} {i : Nat} {x : α} (h : xs[i]? = some x) (s : ys.Sublist (xs.take i)) : (ys ++ [x]).Sublist (xs.take (i + 1)) ∧ ys.Sublist (xs.take (i + 1)) := by
  rw [take_snoc h]
  exact ⟨s.append (List.Sublist.refl _), s.trans (List.sublist_append_left _ _)⟩
section
variable {P : Program} {w : World} {K : PySem.W.Frag} {mg : Str → Option Value} {base : Heap} {a : Ad}
theorem plP {H : Hp} {d F ip : Addr} (h : H d = some (.dK (dictPI (.ref F) (.ref ip)))) : DGet H d (.str "processes") (some (.ref F)) := .inl ⟨_, .inr "processes", .inl h, rfl, valPI1.symm⟩
theorem plI {H : Hp} {d F ip : Addr} (h : H d = some (.dK (dictPI (.ref F) (.ref ip)))) : DGet H d (.str "inputs") (some (.ref ip)) := .inl ⟨_, .inr "inputs", .inl h, rfl, valPI2.symm⟩
def spLNm (K : PySem.W.Frag) : Sp := fun vs H Q _ => ∃ (d : Addr) (es : List Ent) (ins : List Str), vs = [.ref d] ∧ PlainAt K H d es ins ∧ es.length ≤ 10 ∧ ∀ q H', Same H H' → H q = none → H' q = some (.lst ((es.map (·.1)).map V.str)) → Q (.ref q) H'
def spPart (K : PySem.W.Frag) : Sp := fun vs H Q _ => ∃ (l t : Addr) (zs : List Str), vs = [.ref l, .ref t] ∧ PoolAt H l ∧ t ≠ l ∧ H t = some (.lst (zs.map V.str)) ∧ zs.length ≤ 900 ∧ ∀ (q : Addr) (ys : List Str) (H' : Hp), But l H H' → PoolAt H' l → H q = none → H' q = some (.lst (ys.map V.str)) → ys.Sublist zs → Q (.ref q) H'
theorem ok_part (T : Tx P K mg a) : FnOk P w K mg base CX0 2 a.f__law_part a.d__law_part ["pool", "things"] (spPart K) := by
  have F__law_take : FnOk P w K mg base CX0 1 a.f__law_take a.d__law_take ["pool", "bound"] spTake := ok_take T
  refine T._law_part.fn.ok sc__law_part (fun vs H Q E h => ?_) (fun cdv A outer s H vs Q E hr h => ?_)
  · obtain ⟨l, t, zs, rfl, _⟩ := h
    rfl
  · obtain ⟨l, t, zs, rfl, P0, ntl, ht, few, k⟩ := h
    have nd := sc__law_part.nd
    have sl := sl5
    apply Exists.intro
    apply And.intro
    · apply pss_one
      exact (ps_ret (pe_lc (own := [("thing", 2)]) (by rfl) nd (pi_list (pv 1)) (blkOk_by (own := [("thing", 2)]) (N := ["pool", "things", "thing"]) (sc := defScope s__law_part) (by decide +kernel)) (fun _ _ _ _ _ => (pg_name (i := 2) nd rfl (Or.inl rfl))) (fun _ _ _ _ _ => pts_one (pt_cmpR (op_eqX (K := K) hr) (pe_cf T._law_take F__law_take (hr.mono (by decide)) (pa_cons (pv 0) (pa_cons pe_int pa_nil))) pe_int (nomark _))) (fun _ _ _ _ _ => (pv 2))))
    refine ⟨_, rfl, t, rfl, ⟨_, .inl (.inl ht)⟩, fun D nD => ?_⟩
    have nDl : D ≠ l := by
      obtain ⟨p, q, e, _⟩ := P0
      exact fun z => by rw [z, e] at nD; cases nD
    have P1 : PoolAt (upd H D (.lst [])) l := P0.same (sNew nD)
    refine lc_it (walk_list (xs := zs.map V.str)) (fun i H' => ∃ ys : List Str, H' D = some (.lst (ys.map V.str)) ∧ ys.Sublist (zs.take i) ∧ But l H H' ∧ PoolAt H' l) ⟨[], upd_same, List.nil_sublist _, But.same (sNew nD) l, P1⟩ (fun _ _ _ ⟨_, _, _, b, _⟩ => .inl (.inl (b _ _ ntl ht))) ?_ ?_
    · rintro i x H2 H2' hi ⟨ys, hA, sb, b, P2⟩ ⟨rfl, hx⟩
      obtain ⟨z, hz, rfl⟩ := map_at hx
      refine ⟨rfl, _, rfl, l, 2, rfl, P2, by decide, by decide, fun r H3 b3 P3 _ _ => eqI ⟨_, rfl, ?_⟩⟩
      have hA3 := b3 _ _ nDl hA
      have s2 := sub_snoc hz sb
      cases hb : decide (r = 0) with
      | false => exact ⟨ys, hA3, s2.2, b.trans b3, P3⟩
      | true =>
        have lys := sb.length_le
        rw [List.length_take] at lys
        refine ⟨_, rfl, _, hA3, by rw [List.length_map]; omega, ys ++ [z], by rw [upd_same, List.map_append]; rfl, s2.1, ?_, ?_⟩
        · exact But.fr nD (b.trans b3)
        · exact P3.upd nDl.symm
    · rintro H2 ⟨ys, hA, sb, b, P2⟩
      have sb : ys.Sublist (zs.take (zs.map V.str).length) := sb
      rw [List.length_map, List.take_length] at sb
      exact k D ys H2 b P2 nD hA sb
end
end Z
set_option maxRecDepth 100000
set_option maxHeartbeats 4000000
set_option pp.maxSteps 500
namespace Z
open PySem PySem.Spec PyProof.Rows L2
section
variable {P : Program} {w : World} {K : PySem.W.Frag} {mg : Str → Option Value} {base : Heap} {a : Ad}
def spWoken (K : PySem.W.Frag) : Sp := fun vs H Q _ => ∃ (l d : Addr) (es : List Ent) (ins : List Str), vs = [.ref l, .ref d] ∧ PoolAt H l ∧ PlainAt K (wo l H) d es ins ∧ ins.Nodup ∧ 1 ≤ ins.length ∧ ins.length ≤ 10 ∧
  ∀ (q : Addr) (cs : List Str) (H' : Hp), But l H H' → PoolAt H' l → H q = none → H' q = some (.tup (cs.map V.str)) → cs.Nodup → (∀ y ∈ cs, y ∈ ins) → 1 ≤ cs.length → cs.length ≤ ins.length → Q (.ref q) H'
theorem k_is2 : kitB "int" "str" = some false := by decide +kernel
def spWorth (K : PySem.W.Frag) (n : Nat) : Sp := fun vs H Q _ => ∃ (v : V) (d : Addr) (t : Tr) (kvs : List (Key × V)) (h : Str → Int), vs = [v, .ref d] ∧ Dp K H v t.d ∧ t.deep ≤ n ∧ H d = some (.dK kvs) ∧ (∀ w ∈ t.ws, valV kvs (.inr w) = some (.int (h w))) ∧ ∀ H', Same H H' → Q (.int (t.val h)) H'
theorem ok_worth (T : Tx P K mg a) : ∀ n : Nat, FnOk P w K mg base CX0 (n + 1) a.f__law_tree_worth a.d__law_tree_worth ["tree", "held"] (spWorth K n)
  | 0 => fnNo fun vs H Q E ⟨v, d, t, kvs, h, _, _, hd, _⟩ => by
    have := deep_pos t
    omega
  | n + 1 => by
    have F__law_tree_worth : FnOk P w K mg base CX0 (n + 1) a.f__law_tree_worth a.d__law_tree_worth ["tree", "held"] (spWorth K n) := ok_worth T n
    refine T._law_tree_worth.fn.ok sc__law_tree_worth (fun vs H Q E h => ?_) (fun cdv A outer s H vs Q E hr h => ?_)
    · obtain ⟨v, d, t, kvs, h, rfl, _⟩ := h
      rfl
    · obtain ⟨v, d, t, kvs, h, rfl, hv, hdp, hd, hw, q⟩ := h
      have nd := sc__law_tree_worth.nd
      apply Exists.intro
      apply And.intro
      · apply pss_cons
        · exact (ps_if (pt_val (cb_isi T.bi (pa_cons (pv 0) (pa_cons (gl_ty rfl T.bi.tuple PyProof.Rows.boot_tuple) pa_nil)))) (pss_cons (ps_par (i := 2) (j := 3) (by rfl) nd rfl rfl (by decide) rfl rfl (pa_cons (pe_cf T._law_tree_worth F__law_tree_worth hr (pa_cons (pe_ix ix_A (pv 0) pe_int (fun _ _ => rfl)) (pa_cons (pv 1) pa_nil))) (pa_cons (pe_cf T._law_tree_worth F__law_tree_worth hr (pa_cons (pe_ix ix_A (pv 0) pe_int (fun _ _ => rfl)) (pa_cons (pv 1) pa_nil))) pa_nil)) (by rfl)) (pss_one (ps_ret (pe_cf T._law_tree_worth F__law_tree_worth hr (pa_cons (pe_ifExp (pt_cmpR (op_eqX hr) (pv 2) (pv 3) (nomark _)) (pe_ix ix_A (pv 0) pe_int (fun _ _ => rfl)) (pe_ix ix_A (pv 0) pe_int (fun _ _ => rfl))) (pa_cons (pv 1) pa_nil)))))) pss_nil)
        apply pss_one
        exact (ps_ret (pe_ifExp (pt_val (cb_isi T.bi (pa_cons (pv 0) (pa_cons (gl_ty rfl T.bi.str PyProof.Rows.boot_str) pa_nil)))) (pe_dget hr.un1 (pv 1) (pv 0) (fun _ _ => rfl)) (pv 0)))
      cases t with
      | con m =>
        cases tr_con hv
        refine ⟨_, rfl, isiTr hv ?_⟩
        refine ⟨_, rfl, _, rfl, isiTy (.base (.int m)) k_is2 ⟨_, rfl, ?_⟩⟩
        exact ⟨_, rfl, q _ (Same.refl _)⟩
      | var x =>
        cases tr_var hv
        refine ⟨_, rfl, isiTr hv ?_⟩
        refine ⟨_, rfl, _, rfl, isiTy (.base (.str x)) k_ss ⟨_, rfl, ?_⟩⟩
        exact ⟨_, rfl, _, rfl, d, _, rfl, dgS hd (hw x (by simp [Tr.ws])), q _ (Same.refl _)⟩
      | cho a1 b1 c1 e1 =>
        obtain ⟨p, v1, v2, v3, v4, rfl, sq, h1, h2, h3, h4⟩ := tr_cho hv
        have dd : (Tr.cho a1 b1 c1 e1).deep = 1 + max (max a1.deep b1.deep) (max c1.deep e1.deep) := rfl
        have m : ∀ w, w ∈ a1.ws ∨ w ∈ b1.ws ∨ w ∈ c1.ws ∨ w ∈ e1.ws → w ∈ (Tr.cho a1 b1 c1 e1).ws := fun w hw => by
          simp only [Tr.ws, List.mem_append]
          rcases hw with h | h | h | h <;> simp [h]
        refine ⟨_, rfl, isiTr hv ?_⟩
        refine ⟨_, rfl, ?_⟩
        refine ⟨_, rfl, ixT (i := 0) sq rfl ?_⟩
        refine ⟨_, rfl, v1, d, a1, kvs, h, rfl, h1, by omega, hd, fun w hw' => hw w (m w (.inl hw')), fun H1 s1 => ?_⟩
        refine ⟨_, rfl, ixT (i := 1) (SqT.same s1 sq) rfl ?_⟩
        refine ⟨_, rfl, v2, d, b1, kvs, h, rfl, tr_same s1 h2, by omega, s1 _ _ hd, fun w hw' => hw w (m w (.inr (.inl hw'))), fun H2 s2 => ?_⟩
        have s12 := s1.trans s2
        have fin : (Tr.cho a1 b1 c1 e1).val h = if a1.val h = b1.val h then c1.val h else e1.val h := rfl
        refine ⟨_, _, rfl, ?_⟩
        refine ⟨_, rfl, _, rfl, eqI ⟨_, rfl, ?_⟩⟩
        by_cases e : a1.val h = b1.val h
        · rw [decide_eq_true e]
          rw [if_pos e] at fin
          refine ⟨_, rfl, ixT (i := 2) (SqT.same s12 sq) rfl ?_⟩
          refine ⟨_, rfl, v3, d, c1, kvs, h, rfl, tr_same s12 h3, by omega, s12 _ _ hd, fun w hw' => hw w (m w (.inr (.inr (.inl hw')))), fun H3 s3 => ?_⟩
          rw [← fin]
          exact q H3 (s12.trans s3)
        · rw [decide_eq_false e]
          rw [if_neg e] at fin
          refine ⟨_, rfl, ixT (i := 3) (SqT.same s12 sq) rfl ?_⟩
          refine ⟨_, rfl, v4, d, e1, kvs, h, rfl, tr_same s12 h4, by omega, s12 _ _ hd, fun w hw' => hw w (m w (.inr (.inr (.inr hw')))), fun H3 s3 => ?_⟩
          rw [← fin]
          exact q H3 (s12.trans s3)
end
end Z
set_option maxRecDepth 100000
set_option maxHeartbeats 4000000
set_option pp.maxSteps 500
namespace Z
open PySem PySem.Spec PyProof.Rows L2
def wzV : V → Option Int
  | .int z => some z
  | _ => none
structure VOk (K : PySem.W.Frag) (H : Hp) (v : V) : Prop where
  h : ∃ ty r1 r2, TyX K H v (.type ty) ∧ kitB ty "int" = some r1 ∧ kitB ty "bool" = some r2 ∧ (r1 && !r2) = (wzV v).isSome
theorem VOk.same {K : PySem.W.Frag} {H H' : Hp} {v : V} (s : Same H H') (h : VOk K H v) : VOk K H' v := ⟨let ⟨ty, r1, r2, a, b⟩ := h.h; ⟨ty, r1, r2, tyX_same s a, b⟩⟩
theorem VOk.int {K : PySem.W.Frag} {H : Hp} (z : Int) : VOk K H (.int z) := ⟨"int", true, false, .base (.int z), by decide +kernel, by decide +kernel, rfl⟩
theorem VOk.non {K : PySem.W.Frag} {H : Hp} : VOk K H .non := ⟨"NoneType", false, false, .base .non, by decide +kernel, by decide +kernel, rfl⟩
theorem VOk.bl {K : PySem.W.Frag} {H : Hp} (b : Bool) : VOk K H (.bl b) := ⟨"bool", true, true, .base (.bl b), by decide +kernel, by decide +kernel, rfl⟩
theorem VOk.str {K : PySem.W.Frag} {H : Hp} (z : Str) : VOk K H (.str z) := ⟨"str", false, false, .base (.str z), by decide +kernel, by decide +kernel, rfl⟩
theorem VOk.tup {K : PySem.W.Frag} {H : Hp} {t : Addr} {xs : List V} (h : SqT K H t xs) : VOk K H (.ref t) := ⟨"tuple", false, false, tyT h, by decide +kernel, by decide +kernel, rfl⟩
inductive HeldQ (K : PySem.W.Frag) (H : Hp) : V → Option (List (Key × V)) → Prop
  | dict {d : Addr} {kvs : List (Key × V)} (h : H d = some (.dK kvs)) (ok : ∀ n v, valV kvs (.inr n) = some v → VOk K H v) : HeldQ K H (.ref d) (some kvs)
  | no {x : V} {ty : String} (h : TyX K H x (.type ty)) (k : kitB ty "dict" = some false) : HeldQ K H x none
theorem HeldQ.same {K : PySem.W.Frag} {H H' : Hp} {v : V} {o : Option (List (Key × V))} (s : Same H H') (h : HeldQ K H v o) : HeldQ K H' v o := by
  cases h with
  | dict h ok => exact .dict (s _ _ h) fun n v e => (ok n v e).same s
  | no h k => exact .no (tyX_same s h) k
def wholeAt (kvs : List (Key × V)) (n : Str) : Option Int := (valV kvs (.inr n)).bind wzV
def badName (kvs : List (Key × V)) (ns : List Str) : Option Str := ns.find? fun n => (wholeAt kvs n).isNone
theorem whole_int {kvs : List (Key × V)} {n : Str} {z : Int} (h : wholeAt kvs n = some z) : valV kvs (.inr n) = some (.int z) := by
  unfold wholeAt at h
  cases e : valV kvs (.inr n) with
  | none => rw [e] at h; cases h
  | some v =>
    rw [e] at h
    have h : wzV v = some z := h
    cases v <;> cases h
    rfl
theorem bad_first {kvs : List (Key × V)} {l : List Str} {n : Str} {j : Nat} (hn : l[j]? = some n) (h : wholeAt kvs n = none) (hall : ∀ n ∈ l.take j, (wholeAt kvs n).isSome = true) : badName kvs l = some n := by
  unfold badName
  rw [List.find?_eq_some_iff_getElem]
  have lj := (List.getElem?_eq_some_iff.mp hn)
  refine ⟨by rw [h]; rfl, j, lj.1, lj.2, fun i hi => ?_⟩
  have := hall (l[i]'(by have := lj.1; omega)) (by
    rw [List.mem_take_iff_getElem]
    exact ⟨i, by have := lj.1; omega, rfl⟩)
  rw [Bool.not_eq_true', ← Bool.not_eq_true]
  intro h'
  rw [Option.isNone_iff_eq_none] at h'
  rw [h'] at this
  cases this
theorem bad_none {kvs : List (Key × V)} {l : List Str} (hall : ∀ n ∈ l, (wholeAt kvs n).isSome = true) : badName kvs l = none := by
  unfold badName
  rw [List.find?_eq_none]
  intro n hn h
  have := hall n hn
  rw [Option.isNone_iff_eq_none] at h
  rw [h] at this
  cases this
theorem whole_all {kvs : List (Key × V)} {ws : List Str} (hall : ∀ n ∈ ascS ws, (wholeAt kvs n).isSome = true) : ∀ w ∈ ws, valV kvs (.inr w) = some (.int ((wholeAt kvs w).getD 0)) := fun w hw => by
  obtain ⟨z, hz⟩ := Option.isSome_iff_exists.mp (hall w (mem_ascS.mpr hw))
  rw [whole_int hz, hz]
  rfl
theorem k_dd : kitB "dict" "dict" = some true := by decide +kernel
section
variable {P : Program} {w : World} {K : PySem.W.Frag} {mg : Str → Option Value} {base : Heap} {a : Ad}
def spCall (K : PySem.W.Frag) (CT XT XN : Addr) : Sp := fun vs H Q E => ∃ (p : Addr) (y : V) (t : Tr) (o : Option (List (Key × V))), vs = [.ref p, y] ∧ TermAt K CT H p t ∧ t.deep ≤ 3 ∧ HeldQ K H y o ∧
  (o = none → FliesF E XT "value" H y) ∧ (∀ kvs n, o = some kvs → badName kvs (ascS t.ws) = some n → FliesF E XN "who" H (.str n)) ∧
  (∀ kvs h, o = some kvs → badName kvs (ascS t.ws) = none → (∀ w ∈ t.ws, valV kvs (.inr w) = some (.int (h w))) → ∀ H', Same H H' → Q (.int (t.val h)) H')
theorem ok_call (T : Tx P K mg a) : FnOk P w K mg base (L2.CX P w) 6 a.f_Term___call__ a.d_Term___call__ ["self", "values"] (spCall K a.C_Term a.C_NoTerm a.C_NoName) := by
  have F_is_whole : FnOk P w K mg base CX0 1 a.f_is_whole a.d_is_whole ["value"] (spWhole K) := ok_whole T
  have F_vars : FnOk P w K mg base CX0 5 a.f_Term_variables a.d_Term_variables ["self"] (spTVars K a.C_Term) := ok_tvars T
  have F_value_of : FnOk P w K mg base CX0 5 a.f_value_of a.d_value_of ["plan", "values"] (spValue K 3) := ok_value T 3
  refine T.Term___call__.okX sc_Term___call__ (fun vs H Q E h => ?_) (fun cdv A0 outer s0 H vs Q E hr h => ?_)
  · obtain ⟨p, y, t, o, rfl, _⟩ := h
    rfl
  · obtain ⟨p, y, t, o, rfl, ht, hd, hy, kT, kN, k⟩ := h
    have nd := sc_Term___call__.nd
    apply Exists.intro
    apply And.intro
    · apply pss_cons
      · exact (ps_if (pt_not (pt_val (cb_isi T.bi (pa_cons (pv 1) (pa_cons (gl_ty rfl T.bi.dict PyProof.Rows.boot_dict) pa_nil))))) (pss_one (ps_raiseT (takes_of rfl rfl rfl rfl) T.e_NoTerm hr (pa_cons (pv 1) pa_nil))) pss_nil)
      apply pss_cons
      · apply ps_for (passes_of rfl) rfl
        · exact (pi_list (pe_meth0 (pv 0) T.c_Term T.m_Term_variables F_vars (hr.mono (by decide)) T.b_Term_variables .nil pass0))
        · exact (pg_name (i := 2) nd rfl (Or.inl rfl))
        · apply pss_one
          exact (ps_if (PW.pt (pw_or (pt_cmp (pc_dnotin hr.un1 (pv 2) (pv 1))) (pw_or1 (pt_not (pt_val (pe_cf T.is_whole F_is_whole (hr.mono (by decide)) (pa_cons (pe_dget hr.un1 (pv 1) (pv 2) (fun _ _ => rfl)) pa_nil))))))) (pss_one (ps_raiseK (takes_of rfl rfl rfl rfl) T.e_NoName hr (pa_cons (pv 2) pa_nil))) pss_nil)
      apply pss_one
      exact (ps_ret (pe_cf T.value_of F_value_of (hr.mono (by decide)) (pa_cons (pe_fld (pv 0) rfl) (pa_cons (pv 1) pa_nil))))
    cases hy with
    | no hty hk =>
      refine ⟨_, rfl, isiTy hty hk ⟨_, rfl, ?_⟩⟩
      exact ⟨_, rfl, _, rfl, fun d hd' => kT rfl d H (Same.refl _) hd'⟩
    | @dict d kvs hdk ok =>
    refine ⟨_, rfl, isiTy (.base (.dK hdk)) k_dd ⟨_, rfl, ?_⟩⟩
    obtain ⟨dx, u, h1, h2, h3⟩ := id ht
    refine ⟨_, rfl, p, dx, _, rfl, h1, rfl, p, t, rfl, ht, hd, fun q H1 s1 nq hq => ?_⟩
    refine ⟨q, rfl, ⟨_, .inl (.inl hq)⟩, ?_⟩
    refine for_it (walk_list (xs := (ascS t.ws).map V.str)) (fun j σ H' => ∃ (o2 : Option V), σ = [some (.ref p), some (.ref d), o2] ∧ Same H1 H' ∧ ∀ n ∈ (ascS t.ws).take j, (wholeAt kvs n).isSome = true) ⟨_, rfl, Same.refl _, fun n hn => nomatch hn⟩ (fun _ _ _ _ ⟨_, _, sm, _⟩ => .inl (.inl (sm _ _ hq))) ?_ ?_
    · rintro j z σ Ha Ha' hj ⟨o2, rfl, sm, hall⟩ ⟨rfl, hx⟩
      obtain ⟨n, hn, rfl⟩ := map_at hx
      have sa := s1.trans sm
      have hd' := sa _ _ hdk
      have bad : wholeAt kvs n = none → badName kvs (ascS t.ws) = some n := fun h => bad_first hn h hall
      have fly : wholeAt kvs n = none → FliesF E a.C_NoName "who" Ha' (.str n) := fun h e H2 s2 he => kN kvs n rfl (bad h) e H2 (sa.trans s2) he
      refine ⟨_, rfl, _, rfl, d, valV kvs (.inr n), rfl, .inl ⟨kvs, .inr n, .inl hd', rfl, rfl⟩, ?_⟩
      cases hv : valV kvs (.inr n) with
      | none =>
        have wn : wholeAt kvs n = none := by unfold wholeAt; rw [hv]; rfl
        exact ⟨_, rfl, _, rfl, _, rfl, fun e he => fly wn e Ha' (Same.refl _) he⟩
      | some v =>
        obtain ⟨ty, r1, r2, y1, y2, y3, y4⟩ := ((ok n v hv).same sa).h
        have wv : wholeAt kvs n = wzV v := by unfold wholeAt; rw [hv]; rfl
        refine ⟨_, rfl, _, rfl, _, rfl, d, v, rfl, .inl ⟨kvs, .inr n, .inl hd', rfl, hv.symm⟩, v, ty, r1, r2, rfl, y1, y2, y3, ?_⟩
        rw [y4]
        cases hi : wzV v with
        | none => exact ⟨_, rfl, _, rfl, _, rfl, fun e he => fly (wv.trans hi) e Ha' (Same.refl _) he⟩
        | some z =>
          refine ⟨_, rfl, _, rfl, sm, fun n' hn' => ?_⟩
          rw [take_snoc hn] at hn'
          rcases List.mem_append.mp hn' with h | h
          · exact hall n' h
          · rw [List.mem_singleton] at h
            rw [h, wv, hi]
            rfl
    · rintro σ Ha ⟨o2, rfl, sm, hall⟩
      rw [List.length_map, List.take_length] at hall
      have sa := s1.trans sm
      have no := bad_none hall
      have hv := whole_all hall
      refine ⟨_, rfl, p, _, dx, _, u, rfl, sa _ _ h1, T.c_Term, T.no_Term_tree, rfl, _, rfl, u, d, t, kvs, _, rfl, tr_same sa h2, hd, sa _ _ hdk, hv, fun H2 s2 => ?_⟩
      exact k kvs _ rfl no hv H2 (sa.trans s2)
end
end Z
set_option maxRecDepth 100000
set_option maxHeartbeats 4000000
set_option pp.maxSteps 500
namespace Z
open PySem PySem.Spec PyProof.Rows L2 StX
def RepS (K : PySem.W.Frag) (H : Hp) (x : V) (r : Str) : Prop := ∀ (H' : Hp) (Q : VK), Same H H' → Q (.str r) H' → rRepr K [x] H' Q
theorem RepS.same {K : PySem.W.Frag} {H H' : Hp} {x : V} {r : Str} (s : Same H H') (h : RepS K H x r) : RepS K H' x r := fun H2 Q s2 q => h H2 Q (s.trans s2) q
theorem RepS.data {K : PySem.W.Frag} {H : Hp} {x : V} {d : PyData} (h : Dp K H x d) (h1 : d.showable = true) (h2 : d.depth ≤ 60) (h3 : d.shown.length ≤ sizeLine) : RepS K H x d.shown := fun H2 Q s q => reprD (dp_same s h) h1 h2 h3 q
theorem RepS.small {K : PySem.W.Frag} {H : Hp} {x : V} {d : PyData} (h : Dp K H x d) (h1 : d.showable = true) (h2 : d.depth ≤ 60) (lay : d.canLay0 = true) (hi : d.intsShort 32 = true) (hw : d.weight ≤ 10000) : RepS K H x d.shown := by
  refine RepS.data h h1 h2 ?_
  have e := PyData.shown_le 32 (by decide) d (PyData.leavesShort_of_canLay0 32 d lay hi)
  have e2 : (32 + 2) * d.weight ≤ 34 * 10000 := Nat.mul_le_mul (by omega) hw
  rw [sizeLine_eq]
  omega
theorem RepS.word {K : PySem.W.Frag} {H : Hp} {z : Str} (h : Word z) : RepS K H (.str z) (PyData.str z).shown := by
  have hl : z.cps.size ≤ 8 := h.2.1
  exact RepS.small (.str z) (by simp [PyData.showable]) (by simp [PyData.depth]) (by simp only [PyData.canLay0]; exact word_strOk h) (by simp [PyData.intsShort]) (by simp only [PyData.weight]; omega)
theorem tr_wd : ∀ {t : Tr}, t.Ok → ∀ y ∈ t.ws, Word y
  | .con n, _, y, hy => by simp [Tr.ws] at hy
  | .var x, ok, y, hy => by
    have : y = x := by simpa [Tr.ws] using hy
    subst this
    exact ok
  | .cho a b c e, ok, y, hy => by
    obtain ⟨oa, ob, oc, oe⟩ : a.Ok ∧ b.Ok ∧ c.Ok ∧ e.Ok := ok
    simp only [Tr.ws, List.mem_append] at hy
    rcases hy with ((hy | hy) | hy) | hy
    · exact tr_wd oa y hy
    · exact tr_wd ob y hy
    · exact tr_wd oc y hy
    · exact tr_wd oe y hy
section
variable {P : Program} {w : World} {K : PySem.W.Frag} {mg : Str → Option Value} {base : Heap} {a : Ad}
def nameL (n : Str) : List V := [.str "name", .str (PyData.str n).shown, .bl true, .bl false]
def worthL (z : Int) : List V := [.str "worth", .int z]
def noneL (r : Str) : List V := [.str "none", .str r]
def spToldT (K : PySem.W.Frag) (CT : Addr) : Sp := fun vs H Q _ => ∃ (p : Addr) (y : V) (t : Tr) (o : Option (List (Key × V))), vs = [.ref p, y] ∧ TermAt K CT H p t ∧ t.deep ≤ 3 ∧ HeldQ K H y o ∧
  (o = none → ∃ r, RepS K H y r ∧ ∀ l H', Same H H' → H' l = some (.lst (noneL r)) → Q (.ref l) H') ∧
  (∀ kvs n, o = some kvs → badName kvs (ascS t.ws) = some n → ∀ l H', Same H H' → H' l = some (.lst (nameL n)) → Q (.ref l) H') ∧
  (∀ kvs h, o = some kvs → badName kvs (ascS t.ws) = none → (∀ w ∈ t.ws, valV kvs (.inr w) = some (.int (h w))) → ∀ l H', Same H H' → H' l = some (.lst (worthL (t.val h))) → Q (.ref l) H')
theorem ok_toldT (T : Tx P K mg a) : FnG P w K mg base CX0 7 a.f__law_told a.d__law_told ["term", "held"] (spToldT K a.C_Term) := by
  have F1 : FnOk P w K mg base (L2.CX P w) 6 a.f_Term___call__ a.d_Term___call__ ["self", "values"] (spCall K a.C_Term a.C_NoTerm a.C_NoName) := ok_call T
  refine okG T._law_told.fn sc__law_told (fun vs H Q E h => ?_) (fun cdv A outer s0 H vs Q E hr gu h => ?_)
  · obtain ⟨p, y, t, o, rfl, _⟩ := h
    rfl
  · obtain ⟨p, y, t, o, rfl, ht, hd, hy, k0, kN, kV⟩ := h
    have nd := sc__law_told.nd
    have F2 := F1.raw T.b_Term___call__ .nil
    have CO : CallO K a.C_Term a.f_Term___call__ := ⟨T.m_Term___call__.1, T.m_Term___call__.fn, T.o_Term___call__⟩
    refine ⟨_, (pss_one (ps_try_manyN (i := 2) (n := "e") (tb := fun W => tRet (tLst (tCons (tC (.str "worth")) (tCons (tCallOS a.C_Term (fun vs H Q E => spCall K a.C_Term a.C_NoTerm a.C_NoName (vs ++ []) H Q E) (WE W) (tVar 0) (tCons (tVar 1) tNil)) tNil))))
        (l := [(.ref a.C_NoName, fun e cls d => fun D σ H => cls = .ref a.C_NoName ∧ tRet (tLst (tCons (tC (.str "name")) (tCons (tCB (rRepr K) (tCons (tXf e cls d a.C_NoName "who" (tVar 2)) tNil)) (tCons (tCB (rIsB K a.C_NoName e) (tCons (tVar 2) (tCons (tC (.ty "KeyError")) tNil))) (tCons (tCB (rIsQ K a.C_NoName e d) (tCons (tVar 2) (tCons (tC (.ref a.C_TiedError)) tNil))) tNil))))) D σ H),
          (.ref a.C_NoTerm, fun e cls d => fun D σ H => cls = .ref a.C_NoTerm ∧ tRet (tLst (tCons (tC (.str "none")) (tCons (tCB (rRepr K) (tCons (tXf e cls d a.C_NoTerm "value" (tVar 2)) tNil)) tNil))) D σ H)]) (Wout := fun _ _ _ _ => False) rfl rfl nd rfl rfl takes0
        (fun W pn xe tk _ => pss_one (ps_ret (by exact (pe_lst (pa_cons pe_str (pa_cons (pe_callOS (pv 0) CO F2 hr (fun σ => passAt tk σ) (pa_cons (pv 1) pa_nil)) pa_nil))))))
        (.cons ⟨rfl, by decide, Or.inl T.e_NoName.gC⟩ (fun e oe cls d pn hz hf => ?_) (.cons ⟨rfl, by decide, Or.inl T.e_NoTerm.gC⟩ (fun e oe cls d pn hz hf => ?_) .nil)))), ?_⟩
    · constructor
      intro pins s1 σ H1 D I h1
      obtain ⟨hc, h1⟩ := h1
      refine PSs.run (t := tRet (tLst (tCons (tC (.str "name")) (tCons (tCB (rRepr K) (tCons (tXf e cls d a.C_NoName "who" (tVar 2)) tNil)) (tCons (tCB (rIsB K a.C_NoName e) (tCons (tVar 2) (tCons (tC (.ty "KeyError")) tNil))) (tCons (tCB (rIsQ K a.C_NoName e d) (tCons (tVar 2) (tCons (tC (.ref a.C_TiedError)) tNil))) tNil)))))) ?_ pins s1 σ H1 D I h1
      exact pss_one (ps_ret (by exact (pe_lst (pa_cons pe_str (pa_cons (cb_repr T.bi gu hr.units (pa_cons (pe_xf T.e_NoName.xf T.e_NoName.noN hz hf (pv 2)) pa_nil)) (pa_cons (pe_callB (call_isB hz hc) (by rfl) T.bi.isinstance boot_isi (pa_cons (pv 2) (pa_cons (gl_ty rfl T.b_KeyError boot_KeyError) pa_nil))) (pa_cons (pe_callB (call_isQ T.e_NoName.xf T.xc_NoName T.xm_NoName T.xi_NoName T.tn T.tt hz hf hc) (by rfl) T.bi.isinstance boot_isi (pa_cons (pv 2) (pa_cons (pe_gr T.g_TiedError) pa_nil))) pa_nil)))))))
    · constructor
      intro pins s1 σ H1 D I h1
      obtain ⟨hc, h1⟩ := h1
      refine PSs.run (t := tRet (tLst (tCons (tC (.str "none")) (tCons (tCB (rRepr K) (tCons (tXf e cls d a.C_NoTerm "value" (tVar 2)) tNil)) tNil)))) ?_ pins s1 σ H1 D I h1
      exact pss_one (ps_ret (by exact (pe_lst (pa_cons pe_str (pa_cons (cb_repr T.bi gu hr.units (pa_cons (pe_xf T.e_NoTerm.xf T.e_NoTerm.noN hz hf (pv 2)) pa_nil)) pa_nil)))))
    · obtain ⟨dx, u, h1, h2, h3⟩ := id ht
      refine ⟨_, rfl, p, rfl, _, rfl, ⟨dx, _, h1⟩, p, y, t, o, rfl, ht, hd, hy, fun ho d H1 s1 nd1 => ?_, fun kvs n ho hb d H1 s1 nd1 => ?_, fun kvs h ho hb hv H1 s1 => ?_⟩
      · obtain ⟨r, rs, kr⟩ := k0 ho
        have sm : Same H (upd H1 d (.xd [("value", y)])) := s1.trans (sNew nd1)
        refine ⟨false, T.tq_NoTerm_NoName, (fun z => nomatch z), fun _ => ⟨true, T.te_NoTerm, fun _ a0 na => ?_, fun z => nomatch z⟩⟩
        refine ⟨rfl, _, rfl, rfl, rfl, d, _, y, rfl, upd_same, rfl, rs _ _ sm ?_⟩
        refine ⟨by show 2 ≤ sizeLine; decide, fun l hl => ?_⟩
        exact kr l _ (sm.trans (sNew hl)) upd_same
      · have sm : Same H (upd H1 d (.xd [("who", .str n)])) := s1.trans (sNew nd1)
        have hn : Word n := by
          have := List.mem_of_find?_eq_some hb
          exact tr_wd h3.1 n (mem_ascS.mp this)
        refine ⟨true, T.te_NoName, fun _ a0 na => ?_, fun z => nomatch z⟩
        refine ⟨rfl, _, rfl, rfl, rfl, d, _, .str n, rfl, upd_same, rfl, RepS.word hn _ _ (Same.refl _) ?_⟩
        refine ⟨_, rfl, "KeyError", rfl, T.kr_NoName, ?_⟩
        refine ⟨_, rfl, ⟨a.C_TiedError, d, _, false, rfl, T.ki_NoName_TiedError, rfl, upd_same, ?_⟩⟩
        refine ⟨by show 4 ≤ sizeLine; decide, fun l hl => ?_⟩
        exact kN kvs n ho hb l _ (sm.trans (sNew hl)) upd_same
      · refine ⟨by show 2 ≤ sizeLine; decide, fun l hl => ?_⟩
        exact kV kvs h ho hb hv l _ (s1.trans (sNew hl)) upd_same
end
end Z
set_option maxRecDepth 100000
set_option maxHeartbeats 4000000
set_option pp.maxSteps 500
namespace Z
open PySem PySem.Spec PyProof.Rows L2 StX
section
variable {P : Program} {w : World} {K : PySem.W.Frag} {mg : Str → Option Value} {base : Heap} {a : Ad}
def spDueT (K : PySem.W.Frag) : Sp := fun vs H Q _ => ∃ (v : V) (d : Addr) (t : Tr) (kvs : List (Key × V)), vs = [v, .ref d] ∧ Dp K H v t.d ∧ t.Ok ∧ t.deep ≤ 3 ∧ H d = some (.dK kvs) ∧ (∀ n x, valV kvs (.inr n) = some x → VOk K H x) ∧
  (∀ n, badName kvs (ascS t.ws) = some n → ∀ l H', Same H H' → H' l = some (.lst (nameL n)) → Q (.ref l) H') ∧
  (∀ h, badName kvs (ascS t.ws) = none → (∀ w ∈ t.ws, valV kvs (.inr w) = some (.int (h w))) → ∀ l H', Same H H' → H' l = some (.lst (worthL (t.val h))) → Q (.ref l) H')
theorem ok_dueT (T : Tx P K mg a) : FnG P w K mg base CX0 6 a.f__law_due a.d__law_due ["tree", "held"] (spDueT K) := by
  have F__law_tree_words : FnOk P w K mg base CX0 5 a.f__law_tree_words a.d__law_tree_words ["tree"] (spLWords K) := ok_lwordsOf T
  have F__law_tree_worth : FnOk P w K mg base CX0 4 a.f__law_tree_worth a.d__law_tree_worth ["tree", "held"] (spWorth K 3) := ok_worth T 3
  refine okG T._law_due.fn sc__law_due (fun vs H Q E h => ?_) (fun cdv A outer s0 H vs Q E hr gu h => ?_)
  · obtain ⟨v, d, t, kvs, rfl, _⟩ := h
    rfl
  · obtain ⟨v, d, t, kvs, rfl, hv, tok, hd3, hdk, ok, kN, kV⟩ := h
    have nd := sc__law_due.nd
    apply Exists.intro
    apply And.intro
    · apply pss_cons
      · apply ps_for (passes_of rfl) rfl
        · exact (pi_list (pe_cf T._law_tree_words F__law_tree_words (hr.mono (by decide)) (pa_cons (pv 0) pa_nil)))
        · exact (pg_name (i := 2) nd rfl (Or.inl rfl))
        · apply pss_one
          exact (ps_if (PW.pt (pw_or (pt_cmp (pc_dnotin hr.un1 (pv 2) (pv 1))) (pw_or (pt_not (pt_val (cb_isi T.bi (pa_cons (pe_dget hr.un1 (pv 1) (pv 2) (fun _ _ => rfl)) (pa_cons (gl_ty rfl T.bi.int PyProof.Rows.boot_int) pa_nil))))) (pw_or1 (pt_val (cb_isi T.bi (pa_cons (pe_dget hr.un1 (pv 1) (pv 2) (fun _ _ => rfl)) (pa_cons (gl_ty rfl T.bi.bool PyProof.Rows.boot_bool) pa_nil)))))))) (pss_one (ps_ret (pe_lst (pa_cons pe_str (pa_cons (cb_repr T.bi gu hr.units (pa_cons (pv 2) pa_nil)) (pa_cons pe_bl (pa_cons pe_bl pa_nil))))))) pss_nil)
      apply pss_one
      exact (ps_ret (pe_lst (pa_cons pe_str (pa_cons (pe_cf T._law_tree_worth F__law_tree_worth (hr.mono (by decide)) (pa_cons (pv 0) (pa_cons (pv 1) pa_nil))) pa_nil))))
    refine ⟨_, rfl, v, t, rfl, hv, tok, hd3, fun q H1 s1 nq hq => ?_⟩
    refine ⟨q, rfl, ⟨_, .inl (.inl hq)⟩, ?_⟩
    refine for_it (walk_list (xs := (ascS t.ws).map V.str)) (fun j σ H' => ∃ (o2 : Option V), σ = [some v, some (.ref d), o2] ∧ Same H1 H' ∧ ∀ n ∈ (ascS t.ws).take j, (wholeAt kvs n).isSome = true) ⟨_, rfl, Same.refl _, fun n hn => nomatch hn⟩ (fun _ _ _ _ ⟨_, _, sm, _⟩ => .inl (.inl (sm _ _ hq))) ?_ ?_
    · rintro j z σ Ha Ha' hj ⟨o2, rfl, sm, hall⟩ ⟨rfl, hx⟩
      obtain ⟨n, hn, rfl⟩ := map_at hx
      have sa := s1.trans sm
      have hd' := sa _ _ hdk
      have wd : Word n := tr_wd tok n (mem_ascS.mp (List.mem_of_getElem? hn))
      have bad : wholeAt kvs n = none → badName kvs (ascS t.ws) = some n := fun h => bad_first hn h hall
      have fly : wholeAt kvs n = none → ∀ l H', Same Ha' H' → H' l = some (.lst (nameL n)) → Q (.ref l) H' := fun h l H2 s2 he => kN n (bad h) l H2 (sa.trans s2) he
      have out : wholeAt kvs n = none → tLst (tCons (tC (.str "name")) (tCons (tCB (rRepr K) (tCons (tVar 2) tNil)) (tCons (tC (.bl true)) (tCons (tC (.bl false)) tNil)))) [some v, some (.ref d), some (.str n)] Ha' Q := fun h => by
        refine ⟨_, rfl, RepS.word wd _ _ (Same.refl _) ?_⟩
        refine ⟨by show 4 ≤ sizeLine; decide, fun l hl => ?_⟩
        exact fly h l _ (sNew hl) upd_same
      refine ⟨_, rfl, _, rfl, d, valV kvs (.inr n), rfl, .inl ⟨kvs, .inr n, .inl hd', rfl, rfl⟩, ?_⟩
      cases hv : valV kvs (.inr n) with
      | none =>
        have wn : wholeAt kvs n = none := by unfold wholeAt; rw [hv]; rfl
        exact ⟨_, rfl, out wn⟩
      | some x =>
        obtain ⟨ty, r1, r2, y1, y2, y3, y4⟩ := ((ok n x hv).same sa).h
        have wv : wholeAt kvs n = wzV x := by unfold wholeAt; rw [hv]; rfl
        have dg : DGet Ha' d (.str n) (some x) := .inl ⟨kvs, .inr n, .inl hd', rfl, hv.symm⟩
        refine ⟨_, rfl, _, rfl, _, rfl, d, x, rfl, dg, isiTy y1 y2 ⟨_, rfl, ?_⟩⟩
        cases r1 with
        | false =>
          have : wzV x = none := by
            have : (wzV x).isSome = false := y4.symm
            exact Option.isNone_iff_eq_none.mp (by rw [← Option.not_isSome, this]; rfl)
          exact out (wv.trans this)
        | true =>
          refine ⟨_, rfl, _, rfl, d, x, rfl, dg, isiTy y1 y3 ⟨_, rfl, ?_⟩⟩
          cases r2 with
          | true =>
            have : wzV x = none := by
              have : (wzV x).isSome = false := y4.symm
              exact Option.isNone_iff_eq_none.mp (by rw [← Option.not_isSome, this]; rfl)
            exact out (wv.trans this)
          | false =>
            have hs : (wzV x).isSome = true := y4.symm
            refine ⟨_, rfl, sm, fun n' hn' => ?_⟩
            rw [take_snoc hn] at hn'
            rcases List.mem_append.mp hn' with h | h
            · exact hall n' h
            · rw [List.mem_singleton] at h
              rw [h, wv]
              exact hs
    · rintro σ Ha ⟨o2, rfl, sm, hall⟩
      rw [List.length_map, List.take_length] at hall
      have sa := s1.trans sm
      have no := bad_none hall
      have hv' : ∀ w ∈ t.ws, valV kvs (.inr w) = some (.int ((wholeAt kvs w).getD 0)) := whole_all hall
      refine ⟨_, rfl, _, rfl, v, d, t, kvs, _, rfl, tr_same sa hv, hd3, sa _ _ hdk, hv', fun H2 s2 => ?_⟩
      refine ⟨by show 2 ≤ sizeLine; decide, fun l hl => ?_⟩
      exact kV _ no hv' l _ ((sa.trans s2).trans (sNew hl)) upd_same
end
end Z
set_option maxRecDepth 100000
set_option maxHeartbeats 4000000
set_option pp.maxSteps 500
namespace Z
open PySem PySem.Spec PyProof.Rows L2 StX
theorem ix_ne {y z : Int} {r : List Int} (e : ¬ y = z) : (y :: r).idxOf z = r.idxOf z + 1 := by
  rw [List.idxOf_cons, beq_false_of_ne e]
  rfl
def oD : Nat → List Int → List (Key × V)
  | _, [] => []
  | n, z :: r => (.inl z, .int (100000000000000000000 + (n : Nat))) :: oD (n + 1) r
theorem oD_len : ∀ (n : Nat) (zs : List Int), (oD n zs).length = zs.length
  | _, [] => rfl
  | n, z :: r => by
    show (oD (n + 1) r).length + 1 = _
    rw [oD_len, List.length_cons]
theorem oD_snoc : ∀ (n : Nat) (zs : List Int) (z : Int), oD n (zs ++ [z]) = oD n zs ++ [(.inl z, .int (100000000000000000000 + ((n + zs.length : Nat) : Int)))]
  | n, [], z => rfl
  | n, y :: r, z => by
    show _ :: oD (n + 1) (r ++ [z]) = _ :: (oD (n + 1) r ++ _)
    rw [oD_snoc (n + 1) r z, List.length_cons, show n + 1 + r.length = n + (r.length + 1) by omega]
theorem oD_val : ∀ (n : Nat) (zs : List Int) (z : Int), valV (oD n zs) (.inl z) = if z ∈ zs then some (.int (100000000000000000000 + ((n + zs.idxOf z : Nat) : Int))) else none
  | n, [], z => by simp [oD, valV]
  | n, y :: r, z => by
    by_cases e : y = z
    · subst e
      rw [if_pos List.mem_cons_self]
      show valV ((Sum.inl y, V.int _) :: oD (n + 1) r) (.inl y) = _
      rw [valV_pos rfl, List.idxOf_cons_self]
      rfl
    · show valV ((Sum.inl y, V.int _) :: oD (n + 1) r) (.inl z) = _
      rw [valV_neg (fun h => e (Sum.inl.inj h)), oD_val (n + 1) r z]
      by_cases hz : z ∈ r
      · rw [if_pos hz, if_pos (List.mem_cons_of_mem _ hz), ix_ne e, show n + 1 + r.idxOf z = n + (r.idxOf z + 1) by omega]
      · rw [if_neg hz, if_neg (fun h => (List.mem_cons.mp h).elim (fun h => e h.symm) hz)]
theorem oD_keys : ∀ (n : Nat) (zs : List Int), (oD n zs).map (·.1) = zs.map Sum.inl
  | _, [] => rfl
  | n, z :: r => by
    show _ :: (oD (n + 1) r).map (·.1) = _ :: r.map Sum.inl
    rw [oD_keys (n + 1) r]
theorem oD_same : ∀ (n : Nat) (zs : List Int) (z : Int), zs.Nodup → z ∈ zs → ((oD n zs).map fun kv => if kv.1 = .inl z then (kv.1, V.int (100000000000000000000 + ((n + zs.idxOf z : Nat) : Int))) else kv) = oD n zs
  | n, y :: r, z, nd, hz => by
    rw [List.nodup_cons] at nd
    by_cases e : y = z
    · subst e
      have rest : ∀ (v : V), ((oD (n + 1) r).map fun kv => if kv.1 = .inl y then (kv.1, v) else kv) = oD (n + 1) r := fun v => by
        have hk : ∀ kv ∈ oD (n + 1) r, kv.1 ≠ .inl y := fun kv h e => by
          have : kv.1 ∈ (oD (n + 1) r).map (·.1) := List.mem_map.mpr ⟨kv, h, rfl⟩
          rw [oD_keys, e] at this
          obtain ⟨w, hw, e2⟩ := List.mem_map.mp this
          rw [Sum.inl.inj e2] at hw
          exact nd.1 hw
        conv => rhs; rw [← List.map_id (oD (n + 1) r)]
        exact List.map_congr_left fun kv h => by rw [if_neg (hk kv h)]; rfl
      show (if (Sum.inl y : Key) = Sum.inl y then (Sum.inl y, V.int _) else _) :: _ = _ :: oD (n + 1) r
      rw [if_pos rfl, List.idxOf_cons_self]
      exact congrArg (List.cons _) (rest _)
    · have hz' : z ∈ r := (List.mem_cons.mp hz).resolve_left fun h => e h.symm
      show (if (Sum.inl y : Key) = Sum.inl z then _ else (Sum.inl y, V.int _)) :: _ = _ :: oD (n + 1) r
      rw [if_neg (fun h => e (Sum.inl.inj h)), ix_ne e, show n + (r.idxOf z + 1) = n + 1 + r.idxOf z by omega]
      exact congrArg (List.cons _) (oD_same (n + 1) r z nd.2 hz')
theorem oD_put {zs : List Int} {z : Int} (nd : zs.Nodup) (hz : z ∈ zs) : putK (oD 0 zs) (.inl z) (.int (100000000000000000000 + ((0 + zs.idxOf z : Nat) : Int))) = oD 0 zs := by
  unfold putK
  have h : ((oD 0 zs).any fun kv => decide (kv.1 = .inl z)) = true := by
    rw [List.any_eq_true]
    have : (Sum.inl z : Key) ∈ (oD 0 zs).map (·.1) := by rw [oD_keys]; exact List.mem_map.mpr ⟨z, hz, rfl⟩
    obtain ⟨kv, h1, h2⟩ := List.mem_map.mp this
    exact ⟨kv, h1, decide_eq_true h2⟩
  rw [if_pos h]
  exact oD_same 0 zs z nd hz
def mvZ (zs : List Int) (z : Int) : Int := if z ∈ zs then 100000000000000000000 + ((zs.idxOf z : Nat) : Int) else z
theorem mvZ_inj {zs : List Int} {y z : Int} (hy : y < 100000000000000000000) (hz : z < 100000000000000000000) (h : mvZ zs y = mvZ zs z) : y = z := by
  unfold mvZ at h
  by_cases a : y ∈ zs
  · rw [if_pos a] at h
    by_cases b : z ∈ zs
    · rw [if_pos b] at h
      have e : zs.idxOf y = zs.idxOf z := by omega
      have h1 := List.getElem_idxOf (List.idxOf_lt_length_of_mem a)
      have h2 := List.getElem_idxOf (List.idxOf_lt_length_of_mem b)
      rw [← h1, ← h2]
      congr 1
    · rw [if_neg b] at h
      omega
  · rw [if_neg a] at h
    by_cases b : z ∈ zs
    · rw [if_pos b] at h
      omega
    · rw [if_neg b] at h
      exact h
theorem val_mv {zs : List Int} {h : Str → Int} : ∀ {t : Tr}, t.Ok → (∀ n ∈ t.ns, n ∉ zs) → (∀ w ∈ t.ws, h w < 100000000000000000000) → t.val (fun w => mvZ zs (h w)) = mvZ zs (t.val h) ∧ t.val h < 100000000000000000000
  | .con n, ok, hn, _ => by
    have h1 : n ∉ zs := hn n (by simp [Tr.ns])
    have h2 : n ≤ 9 := ok.2
    refine ⟨?_, by show n < _; omega⟩
    show n = mvZ zs n
    unfold mvZ
    rw [if_neg h1]
  | .var x, _, _, hw => ⟨rfl, hw x (by simp [Tr.ws])⟩
  | .cho a b c e, ok, hn, hw => by
    obtain ⟨oa, ob, oc, oe⟩ : a.Ok ∧ b.Ok ∧ c.Ok ∧ e.Ok := ok
    have A := val_mv oa (fun n h => hn n (by simp [Tr.ns, h])) (fun n h => hw n (by simp [Tr.ws, h]))
    have B := val_mv ob (fun n h => hn n (by simp [Tr.ns, h])) (fun n h => hw n (by simp [Tr.ws, h]))
    have C := val_mv oc (fun n h => hn n (by simp [Tr.ns, h])) (fun n h => hw n (by simp [Tr.ws, h]))
    have E := val_mv oe (fun n h => hn n (by simp [Tr.ns, h])) (fun n h => hw n (by simp [Tr.ws, h]))
    show (if a.val (fun w => mvZ zs (h w)) = b.val (fun w => mvZ zs (h w)) then c.val (fun w => mvZ zs (h w)) else e.val (fun w => mvZ zs (h w))) = mvZ zs (if a.val h = b.val h then c.val h else e.val h) ∧ (if a.val h = b.val h then c.val h else e.val h) < _
    by_cases q : a.val h = b.val h
    · rw [if_pos q, if_pos (by rw [A.1, B.1, q])]
      exact C
    · rw [if_neg q, if_neg (fun z => q (mvZ_inj A.2 B.2 (by rw [← A.1, ← B.1]; exact z)))]
      exact E
end Z
set_option maxRecDepth 100000
set_option maxHeartbeats 4000000
set_option pp.maxSteps 500
namespace Z
open PySem PySem.Spec PyProof.Rows L2 StX
theorem ninInts {K : PySem.W.Frag} {H : Hp} {Q : VK} {x : Int} {p : Addr} {l : List Int} (h : SqL K H p (l.map V.int) ∨ SqT K H p (l.map V.int)) (q : Q (.bl (!decide (x ∈ l))) H) : rInA K true (.int x) (.ref p) H Q :=
  ⟨.inl ⟨p, _, rfl, h, rfl, flat_ints l, by rw [inV_ints]; exact q⟩⟩
theorem PrsAt.tk {H H' : Hp} (k : TK H H') {xs : List V} {kvs : List (Key × V)} (h : PrsAt H xs kvs) : PrsAt H' xs kvs := by
  induction h with
  | nil => exact .nil
  | cons h t ih =>
    obtain ⟨t', e, z, hz, ez⟩ := h
    exact .cons ⟨t', e, z, hz.imp (fun q => k.tup _ _ q) (fun ⟨o, q⟩ => ⟨o, k.frz _ _ _ q⟩), ez⟩ ih
theorem prs_off {H : Hp} {d : Addr} {u o : HO} (hd : H d = some u) (n1 : ∀ z, u ≠ .tup z) (n2 : ∀ od z, u ≠ .frz od (.tup z)) {xs : List V} {kvs : List (Key × V)} (h : PrsAt H xs kvs) : PrsAt (upd H d o) xs kvs := by
  induction h with
  | nil => exact .nil
  | cons h t ih =>
    obtain ⟨t', e, z, hz, ez⟩ := h
    refine .cons ⟨t', e, z, hz.imp (fun q => ?_) (fun ⟨ob, q⟩ => ⟨ob, ?_⟩), ez⟩ ih
    · rw [upd_ne (fun e => by rw [e, hd] at q; exact n1 _ (Option.some.inj q))]
      exact q
    · rw [upd_ne (fun e => by rw [e, hd] at q; exact n2 _ _ (Option.some.inj q))]
      exact q
theorem held_int {h : Str → Int} {n : Str} {x : V} : ∀ {W : List Str}, valV (heldK W h) (.inr n) = some x → ∃ z, x = .int z
  | [], e => by simp [heldK, valV] at e
  | y :: W, e => by
    by_cases q : y = n
    · have : valV (heldK (y :: W) h) (.inr n) = some (.int (h y)) := valV_pos (by rw [q])
      rw [this] at e
      exact ⟨h y, (Option.some.inj e).symm⟩
    · have : valV (heldK (y :: W) h) (.inr n) = valV (heldK W h) (.inr n) := valV_neg (fun z => q (Sum.inr.inj z))
      rw [this] at e
      exact held_int (W := W) e
section
variable {P : Program} {w : World} {K : PySem.W.Frag} {mg : Str → Option Value} {base : Heap} {a : Ad}
def spMovedT (K : PySem.W.Frag) : Sp := fun vs H Q _ => ∃ (v : V) (d g : Addr) (t : Tr) (W : List Str) (h : Str → Int) (ds : List Int), vs = [v, .ref d, .ref g] ∧ Dp K H v t.d ∧ t.Ok ∧ t.deep ≤ 3 ∧ H d = some (.dK (heldK W h)) ∧ W.Nodup ∧ W.length ≤ 60 ∧ (∀ w ∈ t.ws, w ∈ W) ∧ (∀ v ∈ W, h v < 100000000000000000000) ∧
  H g = some (.lst (ds.map V.int)) ∧ (∀ n ∈ t.ns, n ∈ ds) ∧ ∀ H', Same H H' → Q (.bl true) H'
theorem ok_movedT (T : Tx P K mg a) : FnOk P w K mg base CX0 9 a.f__law_moved_right a.d__law_moved_right ["tree", "held", "digits"] (spMovedT K) := by
  have F__law_tree_worth : FnOk P w K mg base CX0 4 a.f__law_tree_worth a.d__law_tree_worth ["tree", "held"] (spWorth K 3) := ok_worth T 3
  have F__law_tree_text : FnOk P w K mg base CX0 4 a.f__law_tree_text a.d__law_tree_text ["tree"] (spText K 3) := ok_ltext T 3
  have F_init : FnOk P w K mg base (L2.CX P w) 7 a.f_Term___init__ a.d_Term___init__ ["self", "value"] (spInit K a.C_Term a.C_NoTerm) := ok_init T
  have F_call : FnOk P w K mg base (L2.CX P w) 6 a.f_Term___call__ a.d_Term___call__ ["self", "values"] (spCall K a.C_Term a.C_NoTerm a.C_NoName) := ok_call T
  have F2 := F_call.raw T.b_Term___call__ .nil
  have CO : CallO K a.C_Term a.f_Term___call__ := ⟨T.m_Term___call__.1, T.m_Term___call__.fn, T.o_Term___call__⟩
  refine T._law_moved_right.fn.ok sc__law_moved_right (fun vs H Q E h => ?_) (fun cdv A0 outer s0 H vs Q E hr h => ?_)
  · obtain ⟨v, d, g, t, W, h, ds, rfl, _⟩ := h
    rfl
  · obtain ⟨v, d, g, t, W, h, ds, rfl, hv, tok, hd3, hdk, ndW, lW, tw, hb, hg, tn, k⟩ := h
    have nd := sc__law_moved_right.nd
    have sl : 6000 ≤ sizeLine := by decide
    apply Exists.intro
    apply And.intro
    · apply pss_cons
      · exact (ps_set (i := 3) nd rfl (Or.inr rfl) pe_dnewK)
      apply pss_cons
      · apply ps_lock
        apply ps_for PassesOwn.never rfl
        · exact (pi_keys (pv 1))
        · exact (pg_name (i := 4) nd rfl (Or.inl rfl))
        · apply pss_one
          exact (ps_if (pt_cmpR op_notInA (pe_dget hr.un1 (pv 1) (pv 4) (fun _ _ => rfl)) (pv 2) rfl) (pss_one (ps_dput hr.un1 (pv 3) (pe_dget hr.un1 (pv 1) (pv 4) (fun _ _ => rfl)) (pe_ifExp (pt_cmp (pc_dnotin hr.un1 (pe_dget hr.un1 (pv 1) (pv 4) (fun _ _ => rfl)) (pv 3))) (pe_op op_addA (pe_op op_pow pe_int pe_int) (cb_len T.bi (pa_cons (pv 3) pa_nil))) (pe_dget hr.un1 (pv 3) (pe_dget hr.un1 (pv 1) (pv 4) (fun _ _ => rfl)) (fun _ _ => rfl))) rfl)) pss_nil)
      apply pss_cons
      · exact (ps_set (i := 5) nd rfl (Or.inl rfl) (pe_callTy (Z.call_dictP (by rfl)) rfl T.bi.dict PyProof.Rows.boot_dict (pa_cons (pe_lock (pe_lc (own := [("word", 4)]) (by rfl) nd (pi_keys (pv 1)) (blkOk_by (own := [("word", 4)]) (N := ["tree", "held", "digits", "others", "word", "moved", "worth"]) (sc := defScope s__law_moved_right) (by decide +kernel)) (fun _ _ _ _ _ => (pg_name (i := 4) nd rfl (Or.inl rfl))) (fun _ _ _ _ _ => pts_nil) (fun _ _ _ _ _ => (pe_tup (pa_cons (pv 4) (pa_cons (pe_dget2 hr.un1 (pv 3) (pe_dget hr.un1 (pv 1) (pv 4) (fun _ _ => rfl)) (pe_dget hr.un1 (pv 1) (pv 4) (fun _ _ => rfl)) ⟨rfl, rfl, rfl, rfl⟩) pa_nil)))))) pa_nil)))
      apply pss_cons
      · exact (ps_set (i := 6) nd rfl (Or.inl rfl) (pe_cf T._law_tree_worth F__law_tree_worth (hr.mono (by decide)) (pa_cons (pv 0) (pa_cons (pv 1) pa_nil))))
      apply pss_one
      exact (ps_ret (pe_cmpR (op_eqX hr) (pe_callO (E := E0) (pe_make (E := E0) T.mk_Term F_init (hr.mono (by decide)) rfl T.g_Term T.b_Term___init__ .nil passL (pa_cons (pe_cf T._law_tree_text F__law_tree_text (hr.mono (by decide)) (pa_cons (pv 0) pa_nil)) pa_nil)) CO F2 (hr.mono (by decide)) passL (pa_cons (pv 5) pa_nil)) (pe_dget2 hr.un1 (pv 3) (pv 6) (pv 6) ⟨rfl, rfl, rfl, rfl⟩) (nomark _)))
    have hk0 : ∀ v ∈ W, valV (heldK W h) (.inr v) = some (.int (h v)) := fun v hv => held_get hv
    refine fun od nod => ?_
    have s1 := sNew (o := .dK []) nod
    have ho1 : (upd H od (.dK [])) od = some (.dK (oD 0 [])) := upd_same
    generalize (upd H od (.dK [])) = H1 at s1 ho1 ⊢
    have hd1 := s1 _ _ hdk
    have hg1 := s1 _ _ hg
    have nodd : od ≠ d := (ne_of_none hdk nod).symm
    have nodg : od ≠ g := (ne_of_none hg nod).symm
    have ngd : g ≠ d := ne_of hg hdk (by intro z; cases z)
    refine ⟨d, _, hd1, trivial, fun od' => ?_⟩
    refine ⟨_, rfl, d, od', rfl, .inl ⟨_, upd_same, ?_⟩⟩
    refine for_it walk_keys (fun j σ H' => ∃ (o4 o5 o6 : Option V) (zs : List Int), σ = [some v, some (.ref d), some (.ref g), some (.ref od), o4, o5, o6] ∧ H' d = some (.frz od' (.dK (heldK W h))) ∧ H' od = some (.dK (oD 0 zs)) ∧ zs.Nodup ∧ zs.length ≤ j ∧ (∀ z ∈ zs, z ∉ ds) ∧ (∀ b u, b ≠ d → H b = some u → H' b = some u))
      ⟨_, _, _, [], rfl, upd_same, by rw [upd_ne nodd]; exact ho1, List.nodup_nil, Nat.le_refl _, (fun z hz => nomatch hz), fun b u nb hu => by rw [upd_ne nb]; exact s1 _ _ hu⟩ (fun _ _ _ _ ⟨_, _, _, _, _, h, _⟩ => h) ?_ ?_
    · rintro j x σ Ha Ha' hj ⟨o4, o5, o6, zs, rfl, hda, hoa, ndz, lz, hzd, sa⟩ ⟨rfl, kk, vv, hx, rfl⟩
      obtain ⟨wd, hwd, e1, e2⟩ : ∃ wd, W[j]? = some wd ∧ kk = .inr wd ∧ vv = .int (h wd) := by
        unfold heldK at hx
        rw [List.getElem?_map] at hx
        cases hw : W[j]? with
        | none => rw [hw] at hx; cases hx
        | some wd =>
          rw [hw] at hx
          have hx : (Sum.inr wd, V.int (h wd)) = (kk, vv) := Option.some.inj hx
          exact ⟨wd, rfl, (congrArg Prod.fst hx).symm, (congrArg Prod.snd hx).symm⟩
      subst e1 e2
      have mw := List.mem_of_getElem? hwd
      have hj60 : j < 60 := by
        have := (List.getElem?_eq_some_iff.mp hwd).1
        omega
      have dg : DGet Ha' d (.str wd) (some (.int (h wd))) := .inl ⟨_, .inr wd, .inr ⟨_, hda⟩, rfl, (hk0 wd mw).symm⟩
      have dgo : DGet Ha' od (.int (h wd)) (valV (oD 0 zs) (.inl (h wd))) := .inl ⟨_, .inl (h wd), .inl hoa, rfl, rfl⟩
      refine ⟨_, rfl, _, rfl, d, _, rfl, dg, _, rfl, ninInts (.inl (.inl (.inl (sa _ _ ngd hg)))) ⟨_, rfl, ?_⟩⟩
      by_cases hin : h wd ∈ ds
      · rw [decide_eq_true hin]
        exact ⟨_, _, _, zs, rfl, hda, hoa, ndz, by omega, hzd, sa⟩
      rw [decide_eq_false hin]
      refine ⟨_, rfl, _, rfl, d, _, rfl, dg, _, rfl, od, _, rfl, dgo, ⟨_, rfl, ?_⟩⟩
      have fin : ∀ zs', H1 od = H1 od → zs'.Nodup → zs'.length ≤ j + 1 → (∀ z ∈ zs', z ∉ ds) → ∃ (q4 q5 q6 : Option V) (zs : List Int), ([some v, some (.ref d), some (.ref g), some (.ref od), some (.str wd), o5, o6] : L2.St) = [some v, some (.ref d), some (.ref g), some (.ref od), q4, q5, q6] ∧ (upd Ha' od (.dK (oD 0 zs'))) d = some (.frz od' (.dK (heldK W h))) ∧ (upd Ha' od (.dK (oD 0 zs'))) od = some (.dK (oD 0 zs)) ∧ zs.Nodup ∧ zs.length ≤ j + 1 ∧ (∀ z ∈ zs, z ∉ ds) ∧ (∀ b u, b ≠ d → H b = some u → (upd Ha' od (.dK (oD 0 zs'))) b = some u) :=
        fun zs' _ n1 n2 n3 => ⟨_, _, _, zs', rfl, by rw [upd_ne nodd.symm]; exact hda, upd_same, n1, n2, n3, fun b u nb hu => by rw [upd_ne (fun e => by rw [e, nod] at hu; cases hu)]; exact sa b u nb hu⟩
      rw [oD_val]
      by_cases hz : h wd ∈ zs
      · rw [if_pos hz]
        rw [oD_val, if_pos hz] at dgo
        refine ⟨_, rfl, _, rfl, _, rfl, d, _, rfl, dg, od, _, rfl, dgo, ?_⟩
        refine ⟨_, rfl, _, rfl, _, rfl, d, _, rfl, dg, ?_⟩
        refine ⟨od, _, rfl, .inl ⟨_, .inl (h wd), hoa, rfl, by rw [oD_len]; omega, rfl⟩, ?_⟩
        rw [oD_put ndz hz]
        exact fin zs rfl ndz (by omega) hzd
      · rw [if_neg hz]
        refine ⟨_, _, rfl, rfl, ⟨by decide, by decide, by decide⟩, ?_⟩
        refine ⟨_, rfl, lenD hoa (addI ?_)⟩
        refine ⟨_, rfl, _, rfl, _, rfl, d, _, rfl, dg, ?_⟩
        refine ⟨od, _, rfl, .inl ⟨_, .inl (h wd), hoa, rfl, by rw [oD_len]; omega, rfl⟩, ?_⟩
        have e := oD_snoc 0 zs (h wd)
        rw [putK_new _ (by rw [oD_val, if_neg hz]), oD_len]
        have e2 : oD 0 zs ++ [(Sum.inl (h wd), V.int ((10 : Int) ^ (20 : Int).toNat + ((zs.length : Nat) : Int)))] = oD 0 (zs ++ [h wd]) := by
          rw [e, Nat.zero_add]
          rfl
        rw [e2]
        refine fin (zs ++ [h wd]) rfl (List.nodup_append.mpr ⟨ndz, by simp, fun a ha b hb => ?_⟩) (by rw [List.length_append, List.length_singleton]; omega) fun z hz' => ?_
        · rw [List.mem_singleton] at hb
          subst hb
          exact fun e => hz (e ▸ ha)
        · rcases List.mem_append.mp hz' with h' | h'
          · exact hzd z h'
          · rw [List.mem_singleton] at h'
            rw [h']
            exact hin
    · rintro σ Ha ⟨o4, o5, o6, zs, rfl, hda, hoa, ndz, lz, hzd, sa⟩
      refine ⟨hda, ?_⟩
      have nod2 : od ≠ d := nodd
      have lzs : zs.length ≤ 60 := by
        have e : (heldK W h).length = W.length := by unfold heldK; rw [List.length_map]
        rw [e] at lz
        omega
      have sH2 : Same H (upd Ha d (.dK (heldK W h))) := fun b u hu => by
        by_cases e : b = d
        · rw [e, hdk] at hu
          cases hu
          rw [e]
          exact upd_same
        · rw [upd_ne e]
          exact sa b u e hu
      have ho2 : (upd Ha d (.dK (heldK W h))) od = some (.dK (oD 0 zs)) := by rw [upd_ne nodd]; exact hoa
      generalize (upd Ha d (.dK (heldK W h))) = H2 at sH2 ho2 ⊢
      have hd2 := sH2 _ _ hdk
      clear hda hoa sa
      refine ⟨d, _, hd2, trivial, fun od2 => ?_⟩
      refine ⟨_, rfl, d, od2, rfl, .inl ⟨_, upd_same, fun D nD => ?_⟩⟩
      have nDd : D ≠ d := by
        intro e
        rw [e, upd_same] at nD
        cases nD
      have nD2 : H2 D = none := by rw [upd_ne nDd] at nD; exact nD
      have nDo : D ≠ od := (ne_of_none ho2 nD2).symm
      refine lc_it walk_keys (fun i H' => ∃ xs : List V, H' D = some (.lst xs) ∧ xs.length = i ∧ PrsAt H' xs ((heldK W (fun y => mvZ zs (h y))).take i) ∧ H' d = some (.frz od2 (.dK (heldK W h))) ∧ (∀ b u, b ≠ d → H2 b = some u → H' b = some u))
        ⟨[], upd_same, rfl, .nil, by rw [upd_ne nDd.symm]; exact upd_same, fun b u nb hu => by rw [upd_ne (ne_of_none hu nD2), upd_ne nb]; exact hu⟩ (fun _ _ _ ⟨_, _, _, _, h, _⟩ => h) ?_ ?_
      · rintro j x Hb Hb' hj ⟨xs, hA, lx, prs, hdb, sb⟩ ⟨rfl, kk, vv, hx, rfl⟩
        obtain ⟨wd, hwd, e1, e2⟩ : ∃ wd, W[j]? = some wd ∧ kk = .inr wd ∧ vv = .int (h wd) := by
          unfold heldK at hx
          rw [List.getElem?_map] at hx
          cases hw : W[j]? with
          | none => rw [hw] at hx; cases hx
          | some wd =>
            rw [hw] at hx
            have hx : (Sum.inr wd, V.int (h wd)) = (kk, vv) := Option.some.inj hx
            exact ⟨wd, rfl, (congrArg Prod.fst hx).symm, (congrArg Prod.snd hx).symm⟩
        subst e1 e2
        have mw := List.mem_of_getElem? hwd
        have hj60 : j < 60 := by
          have := (List.getElem?_eq_some_iff.mp hwd).1
          omega
        have dg : DGet Hb' d (.str wd) (some (.int (h wd))) := .inl ⟨_, .inr wd, .inr ⟨_, hdb⟩, rfl, (hk0 wd mw).symm⟩
        have hob := sb _ _ nodd ho2
        have dgo : DGet Hb' od (.int (h wd)) (valV (oD 0 zs) (.inl (h wd))) := .inl ⟨_, .inl (h wd), .inl hob, rfl, rfl⟩
        refine ⟨rfl, _, rfl, _, rfl, od, rfl, .inl ⟨_, .inl hob⟩, _, rfl, _, rfl, d, _, rfl, dg, _, rfl, _, rfl, d, _, rfl, dg, _, dgo, ?_⟩
        have ev : (valV (oD 0 zs) (.inl (h wd))).getD (.int (h wd)) = .int (mvZ zs (h wd)) := by
          rw [oD_val]
          unfold mvZ
          by_cases hz : h wd ∈ zs
          · rw [if_pos hz, if_pos hz, Nat.zero_add]
            rfl
          · rw [if_neg hz, if_neg hz]
            rfl
        rw [ev]
        refine ⟨by show 2 ≤ sizeLine; decide, fun t nt => ?_⟩
        have st := sNew (o := .tup [kV (Sum.inr wd), .int (mvZ zs (h wd))]) nt
        have ht : (upd Hb' t (.tup [kV (Sum.inr wd), .int (mvZ zs (h wd))])) t = some (.tup [kV (Sum.inr wd), .int (mvZ zs (h wd))]) := upd_same
        have hA2 := st _ _ hA
        have ntD : t ≠ D := (ne_of_none hA nt).symm
        have hx' : (heldK W (fun y => mvZ zs (h y)))[j]? = some (Sum.inr wd, V.int (mvZ zs (h wd))) := by
          unfold heldK
          rw [List.getElem?_map, hwd]
          rfl
        generalize (upd Hb' t (.tup [kV (Sum.inr wd), .int (mvZ zs (h wd))])) = Hc at st ht hA2 ⊢
        have tg : TK Hc (upd Hc D (.lst (xs ++ [V.ref t]))) := TK.lst hA2
        refine ⟨_, hA2, by omega, xs ++ [V.ref t], upd_same, by rw [List.length_append, lx]; rfl, ?_, by rw [upd_ne nDd.symm]; exact st _ _ hdb, fun b u nb hu => by rw [upd_ne (ne_of_none hu nD2)]; exact st _ _ (sb b u nb hu)⟩
        rw [take_snoc hx']
        exact Paired.snoc (PrsAt.tk ((TK.of st).trans tg) prs) ⟨t, rfl, _, .inl (by rw [upd_ne ntD]; exact ht), rfl⟩
      · rintro Hb ⟨xs, hA, lx, prs, hdb, sb⟩
        refine ⟨hdb, ?_⟩
        have lk : (heldK W (fun y => mvZ zs (h y))).length = (heldK W h).length := by unfold heldK; rw [List.length_map, List.length_map]
        rw [← lk, List.take_length] at prs
        have sH3 : Same H2 (upd Hb d (.dK (heldK W h))) := fun b u hu => by
          by_cases e : b = d
          · rw [e, hd2] at hu
            cases hu
            rw [e]
            exact upd_same
          · rw [upd_ne e]
            exact sb b u e hu
        have prs3 : PrsAt (upd Hb d (.dK (heldK W h))) xs (heldK W (fun y => mvZ zs (h y))) := prs_off hdb (fun z e => nomatch e) (fun o z e => nomatch e) prs
        have hD3 : (upd Hb d (.dK (heldK W h))) D = some (.lst xs) := by rw [upd_ne nDd]; exact hA
        generalize (upd Hb d (.dK (heldK W h))) = H3 at sH3 prs3 hD3 ⊢
        have ndk : ((heldK W (fun y => mvZ zs (h y))).map (·.1)).Nodup := by
          unfold heldK
          rw [List.map_map]
          have e0 : W.map ((·.1) ∘ fun w => ((Sum.inr w, V.int (mvZ zs (h w))) : Key × V)) = W.map (Sum.inr : Str → Key) := rfl
          rw [e0]
          exact List.pairwise_map.mpr (ndW.imp fun h e => h (Sum.inr.inj e))
        refine ⟨⟨D, xs, _, rfl, .inr hD3, prs3, ndk, fun m nm => ?_⟩⟩
        have s4 := sNew (o := .dK (heldK W (fun y => mvZ zs (h y)))) nm
        have hm : (upd H3 m (.dK (heldK W (fun y => mvZ zs (h y))))) m = some (.dK (heldK W (fun y => mvZ zs (h y)))) := upd_same
        generalize (upd H3 m (.dK (heldK W (fun y => mvZ zs (h y))))) = H4 at s4 hm ⊢
        have sH4 := (sH2.trans sH3).trans s4
        have ho4 := (sH3.trans s4) _ _ ho2
        have vm := val_mv (zs := zs) (h := h) tok (fun n hn hz => hzd n hz (tn n hn)) (fun w hw => hb w (tw w hw))
        refine ⟨_, rfl, _, rfl, v, d, t, heldK W h, h, rfl, tr_same sH4 hv, hd3, sH4 _ _ hdk, fun w hw => hk0 w (tw w hw), fun H5 s5 => ?_⟩
        refine ⟨_, rfl, v, t, rfl, tr_same (sH4.trans s5) hv, tok, hd3, by decide, fun H6 s6 => ?_⟩
        intro x2 dx2 n1 n2 ne
        refine make_term tok hd3 n1 n2 ne fun H7 s7 tq => ⟨rfl, ?_⟩
        have sA : Same H4 H7 := (s5.trans s6).trans s7
        obtain ⟨dx3, u3, q1, q2, q3⟩ := id tq
        refine ⟨x2, rfl, _, rfl, .inr ⟨dx3, _, q1⟩, x2, .ref m, t, some (heldK W (fun y => mvZ zs (h y))), rfl, tq, hd3, .dict (sA _ _ hm) (fun n x e => ?_), (fun e => nomatch e), fun kvs n e hbad => ?_, fun kvs h' e hbad hv' H8 s8 => ?_⟩
        · obtain ⟨z, rfl⟩ := held_int e
          exact .int z
        · exfalso
          cases e
          have m := mem_ascS.mp (List.mem_of_find?_eq_some hbad)
          have := List.find?_some hbad
          unfold wholeAt at this
          rw [held_get (tw n m)] at this
          exact absurd this (by simp [wzV])
        · cases e
          have ho8 := (sA.trans s8) _ _ ho4
          have dgo : DGet H8 od (.int (t.val h)) (valV (oD 0 zs) (.inl (t.val h))) := .inl ⟨_, .inl (t.val h), .inl ho8, rfl, rfl⟩
          refine ⟨_, rfl, od, rfl, .inl ⟨_, .inl ho8⟩, _, rfl, _, rfl, _, dgo, ?_⟩
          have ev : (valV (oD 0 zs) (.inl (t.val h))).getD (.int (t.val h)) = .int (mvZ zs (t.val h)) := by
            rw [oD_val]
            unfold mvZ
            by_cases hz : t.val h ∈ zs
            · rw [if_pos hz, if_pos hz, Nat.zero_add]
              rfl
            · rw [if_neg hz, if_neg hz]
              rfl
          rw [ev]
          have eh : t.val h' = mvZ zs (t.val h) := by
            rw [← vm.1]
            refine Tr.val_congr t fun w hw => ?_
            have e1 := hv' w hw
            rw [held_get (tw w hw)] at e1
            exact (V.int.inj (Option.some.inj e1)).symm
          refine eqI ?_
          rw [decide_eq_true eh]
          exact k _ (sH4.trans (sA.trans s8))
end
end Z
set_option maxRecDepth 100000
set_option maxHeartbeats 4000000
set_option pp.maxSteps 500
namespace Z
open PySem PySem.Spec PyProof.Rows L2 StX
theorem Room.un0 {n : Nat} {A : Around} (h : Room (n + 1) A) : A.units < cLine := by
  have := h.un1
  omega
section
variable {P : Program} {w : World} {K : PySem.W.Frag} {mg : Str → Option Value} {base : Heap} {a : Ad}
def spTakeC : Sp := fun vs H Q _ => ∃ (l : Addr) (b : Int), vs = [.ref l, .int b] ∧ PoolAt H l ∧ 0 < b ∧ b ≤ 1000000000 ∧ ∀ r H', But l H H' → PoolAt H' l → 0 ≤ r → r < b → Q (.int r) H'
theorem ok_takeC (T : Tx P K mg a) : FnOk P w K mg base CX0 1 a.f__law_take a.d__law_take ["pool", "bound"] spTakeC := by
  refine T._law_take.fn.ok sc__law_take (fun vs H Q E h => ?_) (fun cdv A outer s H vs Q E hr h => ?_)
  · obtain ⟨l, b, rfl, _⟩ := h
    rfl
  · obtain ⟨l, b, rfl, ⟨p, q, hl, q0, q1⟩, hb, hb2, k⟩ := h
    have nd := sc__law_take.nd
    refine ⟨_, (pss_cons (ps_if (pt_cmpR op_gt (pe_ix ix_A (pv 0) pe_int (fun _ _ => rfl)) pe_int (nomark _))
        (pss_cons (ps_set (i := 2) nd rfl (Or.inl rfl) (pe_op op_mod (cb_int T.bi (pa_cons (pe_ix ix_A (pv 0) pe_int (fun _ _ => rfl)) pa_nil)) (pv 1)))
        (pss_cons (ps_asg (pe_op op_fdivW (pe_ix ix_A (pv 0) pe_int (fun _ _ => rfl)) (pv 1)) (pg_sub (pv 0) pe_int set_list))
        (pss_one (ps_ret (pv 2))))) pss_nil)
      (pss_cons (ps_asg (pe_op op_mod (cb_int T.bi (pa_cons (pe_op op_addA (pe_op op_mulA (pe_ix ix_A (pv 0) pe_int (fun _ _ => rfl)) pe_int) pe_int) pa_nil)) pe_int) (pg_sub (pv 0) pe_int set_list))
      (pss_one (ps_ret (pe_op op_mod (cb_int T.bi (pa_cons (pe_op op_fdivW (pe_op op_mod (cb_int T.bi (pa_cons (pe_op op_mulA (pe_ix ix_A (pv 0) pe_int (fun _ _ => rfl)) (pe_ix ix_A (pv 0) pe_int (fun _ _ => rfl))) pa_nil)) pe_int) pe_int) pa_nil)) (pv 1)))))), ?_⟩
    refine ⟨_, rfl, ixP0 hl ?_⟩
    refine ⟨p, 0, rfl, rfl, _, rfl, ?_⟩
    by_cases hp : 0 < p
    · rw [decide_eq_true hp]
      refine ⟨_, rfl, ixP0 hl (intI ?_)⟩
      refine ⟨_, rfl, _, _, rfl, rfl, hb, ?_⟩
      refine ⟨_, rfl, ixP0 hl ?_⟩
      refine ⟨_, rfl, _, _, rfl, rfl, wide_div (b := 30) hb (by omega) (by decide) (by decide), ?_⟩
      refine ⟨_, rfl, l, _, 0, 0, rfl, rfl, hl, rfl, ?_⟩
      exact ⟨_, rfl, k _ _ (But.upd) ⟨_, _, upd_same, q0, q1⟩ (Int.emod_nonneg _ (by omega)) (Int.emod_lt_of_pos _ hb)⟩
    · rw [decide_eq_false hp]
      refine ⟨_, rfl, ixP1 hl ?_⟩
      refine mulI (mulx_ok (a := 31) (b := 16) (by omega) (by decide) (by decide)) (addI (intI ?_))
      refine ⟨_, _, rfl, rfl, (show (0 : Int) < 2147483647 by decide), ?_⟩
      refine ⟨_, rfl, l, _, 1, 1, rfl, rfl, hl, rfl, ?_⟩
      have g0 := Int.emod_nonneg (q * 39373 + 7) (show (2147483647 : Int) ≠ 0 by decide)
      have g1 := Int.emod_lt_of_pos (q * 39373 + 7) (show (0 : Int) < 2147483647 by decide)
      have hl2 : (upd H l (.lst ([V.int p, .int q].set 1 (.int ((q * 39373 + 7) % 2147483647))))) l = some (.lst [.int p, .int ((q * 39373 + 7) % 2147483647)]) := upd_same
      refine ⟨_, rfl, ixP1 hl2 ?_⟩
      refine ⟨_, rfl, ixP1 hl2 ?_⟩
      refine mulI (mulx_ok (a := 31) (b := 31) (by omega) (by omega) (by decide)) (intI ?_)
      refine ⟨_, _, rfl, rfl, (show (0 : Int) < 2147483629 by decide), ?_⟩
      refine ⟨_, _, rfl, rfl, ⟨(show (0 : Int) < 32 by decide), by decide⟩, intI ?_⟩
      refine ⟨_, rfl, _, _, rfl, rfl, hb, ?_⟩
      exact k _ _ (But.upd) ⟨_, _, hl2, g0, g1⟩ (Int.emod_nonneg _ (by omega)) (Int.emod_lt_of_pos _ hb)
end
theorem fnOr {P : Program} {w : World} {K : PySem.W.Frag} {mg : Str → Option Value} {base : Heap} {CX : CXT} {k : Nat} {f : Addr} {fd : FuncData} {ps : List Str} {sp sp' : Sp} (F : FnOk P w K mg base CX k f fd ps sp) (G : FnOk P w K mg base CX k f fd ps sp') : FnOk P w K mg base CX k f fd ps (fun vs H Q E => sp vs H Q E ∨ sp' vs H Q E) :=
  ⟨fun vs H Q E h => h.elim (F.len vs H Q E) (G.len vs H Q E), fun A outer s H args us vs Q E hr he hb hv hs => hs.elim (F.run A outer s H args us vs Q E hr he hb hv) (G.run A outer s H args us vs Q E hr he hb hv)⟩
def spTreesG (K : PySem.W.Frag) : Sp := fun vs H Q E => spTreeG K 1 vs H Q E ∨ spTreeG K 2 vs H Q E ∨ spTreeG K 3 vs H Q E
theorem treesG_of {K : PySem.W.Frag} {r : Int} {l pw pd : Addr} {ws : List Str} {ds : List Int} {H : Hp} {Q : VK} {E : XK} (r0 : 0 ≤ r) (r1 : r < 3) (hP : PoolAt H l) (nw : pw ≠ l) (ndl : pd ≠ l) (hw : H pw = some (.lst (ws.map V.str))) (hd : H pd = some (.lst (ds.map V.int)))
    (w0 : ws ≠ []) (wl : ws.length < 1000) (dl : ds.length < 1000) (wW : ∀ y ∈ ws, Word y) (dD : ∀ y ∈ ds, 0 ≤ y ∧ y ≤ 9) (k : ∀ (v : V) (t : Tr) H', But l H H' → PoolAt H' l → Dp K H' v t.d → t.Ok → t.deep ≤ 3 → t.Of ws ds → Q v H') : spTreesG K [.ref l, .ref pw, .ref pd, .int (1 + r)] H Q E := by
  have : r = 0 ∨ r = 1 ∨ r = 2 := by omega
  rcases this with rfl | rfl | rfl
  · exact .inl ⟨l, pw, pd, ws, ds, rfl, hP, nw, ndl, hw, hd, w0, wl, dl, wW, dD, by decide, fun v t H' b p h ok d => k v t H' b p h ok (by omega)⟩
  · exact .inr (.inl ⟨l, pw, pd, ws, ds, rfl, hP, nw, ndl, hw, hd, w0, wl, dl, wW, dD, by decide, fun v t H' b p h ok d => k v t H' b p h ok (by omega)⟩)
  · exact .inr (.inr ⟨l, pw, pd, ws, ds, rfl, hP, nw, ndl, hw, hd, w0, wl, dl, wW, dD, by decide, fun v t H' b p h ok d => k v t H' b p h ok (by omega)⟩)
theorem zip_held {W : List Str} {zs : List Int} (nd : W.Nodup) (l : zs.length = W.length) : (W.map (Sum.inr : Str → Key)).zip (zs.map V.int) = heldK W (hOf W zs) := by
  refine List.ext_getElem? fun j => ?_
  unfold heldK
  rw [List.getElem?_map]
  by_cases hj : j < W.length
  · have h1 := List.getElem?_eq_getElem hj
    have h2 := List.getElem?_eq_getElem (show j < zs.length by omega)
    rw [List.getElem?_zip_eq_some (z := ((Sum.inr W[j] : Key), V.int zs[j])) |>.mpr ⟨by rw [List.getElem?_map, h1]; rfl, by rw [List.getElem?_map, h2]; rfl⟩, h1, Option.map_some, hOf_at nd h1 h2]
  · rw [List.getElem?_eq_none (l := W) (by omega), List.getElem?_eq_none (by rw [List.length_zip, List.length_map, List.length_map]; omega)]
    rfl
theorem prs_of_paired {H : Hp} : ∀ {ts : List Addr} {kvs : List (Key × V)}, Paired (fun (t : Addr) (q : Key × V) => H t = some (.tup [kV q.1, q.2])) ts kvs → PrsAt H (ts.map V.ref) kvs
  | _, _, .nil => .nil
  | _, _, .cons h r => .cons ⟨_, rfl, _, .inl h, rfl⟩ (prs_of_paired r)
theorem held_nodup {W : List Str} {h : Str → Int} (nd : W.Nodup) : ((heldK W h).map (·.1)).Nodup := by
  unfold heldK
  rw [List.map_map]
  have e0 : W.map ((·.1) ∘ fun w => ((Sum.inr w, V.int (h w)) : Key × V)) = W.map (Sum.inr : Str → Key) := rfl
  rw [e0]
  exact List.pairwise_map.mpr (nd.imp fun h e => h (Sum.inr.inj e))
theorem tm_but {K : PySem.W.Frag} {C : Addr} {H H1 H2 : Hp} {l x : Addr} {t : Tr} (hl : ∃ xs, H l = some (.lst xs)) (b : But l H H1) (s : Same H1 H2) (h : TermAt K C H x t) : TermAt K C H2 x t := by
  obtain ⟨dx, u, h1, h2, h3⟩ := h
  obtain ⟨xs, e⟩ := hl
  refine ⟨dx, u, s _ _ (b _ _ (ne_of h1 e (by intro z; cases z)) h1), tr_tk (TK.trans ⟨fun c ys hc => ?_, fun c o u' hc => ?_⟩ (TK.of s)) t h2, h3⟩
  · exact b _ _ (ne_of hc e (by intro z; cases z)) hc
  · exact b _ _ (ne_of hc e (by intro z; cases z)) hc
theorem merge_val : ∀ (more acc : List (Key × V)) {k : Key} {x : V}, valV (mergeK acc more) k = some x → valV acc k = some x ∨ ∃ p ∈ more, p.2 = x
  | [], acc, k, x, h => .inl h
  | p :: r, acc, k, x, h => by
    have h : valV (mergeK (putK acc p.1 p.2) r) k = some x := h
    rcases merge_val r _ h with h | ⟨q, h1, h2⟩
    · rw [valV_put] at h
      by_cases e : k = p.1
      · rw [if_pos e] at h
        exact .inr ⟨p, List.mem_cons_self, Option.some.inj h⟩
      · rw [if_neg e] at h
        exact .inl h
    · exact .inr ⟨q, List.mem_cons_of_mem _ h1, h2⟩
theorem merge_ok {K : PySem.W.Frag} {H : Hp} {W : List Str} {h : Str → Int} {n : Str} {y : V} (hy : VOk K H y) : ∀ m x, valV (mergeK [] (heldK W h ++ [(Sum.inr n, y)])) (.inr m) = some x → VOk K H x := fun m x e => by
  rcases merge_val _ _ e with e | ⟨p, hp, rfl⟩
  · simp [valV] at e
  · rcases List.mem_append.mp hp with hp | hp
    · obtain ⟨w, _, rfl⟩ := List.mem_map.mp hp
      exact .int _
    · rw [List.mem_singleton] at hp
      rw [hp]
      exact hy
structure SomeD (K : PySem.W.Frag) (H : Hp) (x : V) : Prop where
  h : ∃ d kvs, x = .ref d ∧ H d = some (.dK kvs) ∧ ∀ n y, valV kvs (.inr n) = some y → VOk K H y
theorem SomeD.same {K : PySem.W.Frag} {H H' : Hp} {x : V} (s : Same H H') (h : SomeD K H x) : SomeD K H' x := ⟨let ⟨d, kvs, a, b, c⟩ := h.h; ⟨d, kvs, a, s _ _ b, fun n y e => (c n y e).same s⟩⟩
structure ThingQ (K : PySem.W.Frag) (H : Hp) (x : V) : Prop where
  h : ∃ r : Str, HeldQ K H x none ∧ RepS K H x r
theorem ThingQ.same {K : PySem.W.Frag} {H H' : Hp} {x : V} (s : Same H H') (h : ThingQ K H x) : ThingQ K H' x := ⟨let ⟨r, a, b⟩ := h.h; ⟨r, a.same s, b.same s⟩⟩
theorem show_int {i : Int} (h1 : -1000000000000000000 ≤ i) (h2 : i < 1000000000) : (PyData.int i).showable = true ∧ (PyData.int i).intsShort 32 = true ∧ (PyData.int i).weight ≤ 61 := by
  have hn : i.natAbs < 2 ^ 60 := by omega
  have hl : Nat.log2 i.natAbs < 60 := by
    by_cases h0 : i.natAbs = 0
    · rw [h0]; decide
    · exact (Nat.log2_lt h0).mpr hn
  refine ⟨?_, ?_, ?_⟩
  · simp [PyData.showable]
    omega
  rotate_left
  · simp only [PyData.weight]
    split <;> omega
  · have hi : i.natAbs < 10 ^ 20 := by omega
    have e := int_text_length_le10 (a := i) (k := 20) (by decide) hi
    simp only [PyData.intsShort, decide_eq_true_eq]
    show (Str.ofString (toString i)).length ≤ 32
    rw [PySem.ofString_length]
    omega
def itemsD (W : List Str) (h : Str → Int) : List PyData := W.map fun w => .tuple [.str w, .int (h w)]
theorem items_dp {K : PySem.W.Frag} {H : Hp} {h : Str → Int} : ∀ {ts : List Addr} {W : List Str}, Paired (fun (t : Addr) (q : Key × V) => H t = some (.tup [kV q.1, q.2])) ts (heldK W h) → DpAll K H (ts.map V.ref) (itemsD W h)
  | [], [], _ => .nil
  | _ :: _, [], r => nomatch r
  | [], _ :: _, r => nomatch r
  | t :: ts, w :: W, r => by
    cases r with
    | cons h1 r => exact .cons (.tup (.inl (.inl h1)) (.cons (.str w) (.cons (.int _) .nil))) (items_dp (W := W) r)
theorem items_small {h : Str → Int} : ∀ {W : List Str}, (∀ w ∈ W, Word w ∧ -1000000000000000000 ≤ h w ∧ h w < 1000000000) → PyData.showableAll (itemsD W h) = true ∧ PyData.depthAll (itemsD W h) ≤ 3 ∧ PyData.canLayAll0 (itemsD W h) = true ∧ PyData.intsShortAll 32 (itemsD W h) = true ∧ PyData.weightAll (itemsD W h) ≤ 80 * W.length
  | [], _ => by simp [itemsD, PyData.showableAll, PyData.depthAll, PyData.canLayAll0, PyData.intsShortAll, PyData.weightAll]
  | w :: W, hw => by
    obtain ⟨a1, a2, a3⟩ := hw w List.mem_cons_self
    obtain ⟨b1, b2, b3, b4, b5⟩ := items_small (W := W) fun y hy => hw y (List.mem_cons_of_mem _ hy)
    obtain ⟨c1, c2, c3⟩ := show_int a2 a3
    have l8 : w.cps.size ≤ 8 := a1.2.1
    have so := word_strOk a1
    have e : itemsD (w :: W) h = .tuple [.str w, .int (h w)] :: itemsD W h := rfl
    rw [e]
    refine ⟨?_, ?_, ?_, ?_, ?_⟩
    · simp only [PyData.showableAll, PyData.showable, Bool.and_eq_true]
      simp only [PyData.showable] at c1
      simp [b1, c1, PyData.showable, PyData.showableAll]
    · simp only [PyData.depthAll, PyData.depth]; omega
    · simp [PyData.canLayAll0, PyData.canLay0, so, b3]
    · simp only [PyData.intsShortAll, PyData.intsShort] at c2 ⊢
      simp [c2, b4]
    · simp only [PyData.weightAll, List.length_cons]
      have e2 : (PyData.tuple [.str w, .int (h w)]).weight = (w.cps.size + 1 + ((PyData.int (h w)).weight + 1 + 0)) := rfl
      rw [e2]
      omega
theorem sh_worth (z : Int) : SeqAt.shaped (.list [.str "worth", .int z]) = true := by
  have : PyData.strOk ("worth" : Str) = true := by decide +kernel
  simp [SeqAt.shaped, PyData.canLay0, PyData.canLayAll0, PyData.depth, PyData.depthAll, this]
theorem flat_name (n : Str) : ∀ v ∈ nameL n, Flat1 v := fun v hv => by
  unfold nameL at hv
  simp only [List.mem_cons, List.not_mem_nil, or_false] at hv
  rcases hv with rfl | rfl | rfl | rfl
  · exact .inl ⟨_, rfl⟩
  · exact .inl ⟨_, rfl⟩
  · exact .inr ⟨_, rfl⟩
  · exact .inr ⟨_, rfl⟩
theorem told_then {K : PySem.W.Frag} {CT p d : Addr} {v : V} {t : Tr} {kvs : List (Key × V)} {H : Hp} {Q : VK} {E : XK} (tm : TermAt K CT H p t) (hd : t.deep ≤ 3) (hdk : H d = some (.dK kvs)) (ok : ∀ n x, valV kvs (.inr n) = some x → VOk K H x) (hv : Dp K H v t.d) (tok : t.Ok)
    (k : ∀ l1 H1, Same H H1 → (∀ H2 (R : VK) E2, Same H1 H2 → (∀ H3, Same H2 H3 → R (.bl false) H3) → spDueT K [v, .ref d] H2 (fun y H3 => rNeX K (.ref l1) y H3 R ∨ rNeSame K (.ref l1) y H3 R) E2) → Q (.ref l1) H1) : spToldT K CT [.ref p, .ref d] H Q E := by
  refine ⟨p, .ref d, t, some kvs, rfl, tm, hd, .dict hdk ok, (fun e => nomatch e), fun kvs' n e hb l1 H1 s1 h1 => ?_, fun kvs' h e hb hw l1 H1 s1 h1 => ?_⟩
  · cases e
    refine k l1 H1 s1 fun H2 R E2 s2 r => ?_
    have s12 := s1.trans s2
    refine ⟨v, d, t, kvs, rfl, tr_same s12 hv, tok, hd, s12 _ _ hdk, fun n x e => (ok n x e).same s12, fun n' hb' l2 H3 s3 h3 => ?_, fun h hb' => ?_⟩
    · rw [hb] at hb'
      cases hb'
      exact .inr ⟨l1, l2, _, rfl, rfl, .inl (.inl ((s2.trans s3) _ _ h1)), .inl (.inl h3), flat_name n, r _ s3⟩
    · rw [hb] at hb'
      cases hb'
  · cases e
    refine k l1 H1 s1 fun H2 R E2 s2 r => ?_
    have s12 := s1.trans s2
    refine ⟨v, d, t, kvs, rfl, tr_same s12 hv, tok, hd, s12 _ _ hdk, fun n x e => (ok n x e).same s12, fun n' hb' => ?_, fun h' hb' hw' l2 H3 s3 h3 => ?_⟩
    · rw [hb] at hb'
      cases hb'
    · have e : t.val h' = t.val h := Tr.val_congr t fun w hm => by
        have e1 := hw' w hm
        rw [hw w hm] at e1
        exact (V.int.inj (Option.some.inj e1)).symm
      rw [e] at h3
      exact .inl (neDself (d := .list [.str "worth", .int (t.val h)]) (.lst (.inl (.inl ((s2.trans s3) _ _ h1))) (.cons (.str _) (.cons (.int _) .nil))) (.lst (.inl (.inl h3)) (.cons (.str _) (.cons (.int _) .nil))) (sh_worth _) (r _ s3))
section
variable {P : Program} {w : World} {K : PySem.W.Frag} {mg : Str → Option Value} {base : Heap} {a : Ad}
def spLaw (K : PySem.W.Frag) : Sp := fun vs H Q _ => ∃ (s : Addr) (ns : List Int), vs = [.ref s] ∧ SqL K H s (ns.map V.int) ∧ (∀ z ∈ ns, Builtin.Int.intBits z ≤ 1048576) ∧ ∀ H', Q (.bl true) H'
theorem ok_law (T : Tx P K mg a) : FnG P w K mg base CX0 30 a.f_law a.d_law ["script"] (spLaw K) := by
  have F__law_pool : FnOk P w K mg base CX0 1 a.f__law_pool a.d__law_pool ["script", "k"] (spPool K) := ok_pool T
  have F__law_take : FnOk P w K mg base CX0 1 a.f__law_take a.d__law_take ["pool", "bound"] spTake := ok_take T
  have F_takeC : FnOk P w K mg base CX0 1 a.f__law_take a.d__law_take ["pool", "bound"] spTakeC := ok_takeC T
  have F__law_one : FnOk P w K mg base CX0 2 a.f__law_one a.d__law_one ["pool", "things"] (spOne K) := ok_one T
  have F__law_part : FnOk P w K mg base CX0 2 a.f__law_part a.d__law_part ["pool", "things"] (spPart K) := ok_part T
  have F__law_words : FnOk P w K mg base CX0 3 a.f__law_words a.d__law_words ["pool", "bound"] (spWordsN K) := ok_wordsN T
  have F__law_tree : FnOk P w K mg base CX0 6 a.f__law_tree a.d__law_tree ["pool", "words", "digits", "deep"] (spTreesG K) := fnOr ((ok_treeG T 1).mono (by decide)) (fnOr ((ok_treeG T 2).mono (by decide)) (ok_treeG T 3))
  have F__law_tree_text : FnOk P w K mg base CX0 4 a.f__law_tree_text a.d__law_tree_text ["tree"] (spText K 3) := ok_ltext T 3
  have F__law_tree_digits : FnOk P w K mg base CX0 5 a.f__law_tree_digits a.d__law_tree_digits ["tree"] (spLDigits K) := ok_ldigitsOf T
  have F_init : FnOk P w K mg base (L2.CX P w) 7 a.f_Term___init__ a.d_Term___init__ ["self", "value"] (spInit K a.C_Term a.C_NoTerm) := ok_init T
  have F__law_told : FnG P w K mg base CX0 7 a.f__law_told a.d__law_told ["term", "held"] (spToldT K a.C_Term) := ok_toldT T
  have F__law_due : FnG P w K mg base CX0 6 a.f__law_due a.d__law_due ["tree", "held"] (spDueT K) := ok_dueT T
  have F__law_moved_right : FnOk P w K mg base CX0 9 a.f__law_moved_right a.d__law_moved_right ["tree", "held", "digits"] (spMovedT K) := ok_movedT T
  refine okG T.law.fn sc_law (fun vs H Q E h => ?_) (fun cdv A outer s H vs Q E hr gu h => ?_)
  · obtain ⟨l, ns, rfl, _⟩ := h
    rfl
  · obtain ⟨sa, ns, rfl, hs, hb, k⟩ := h
    have nd := sc_law.nd
    have sl : 6000 ≤ sizeLine := by decide
    apply Exists.intro
    apply And.intro
    · apply pss_cons
      · apply ps_for (passes_of rfl) rfl
        · exact (pi_range1 rfl T.bi.range (pa_cons (cb_max T.bi (pa_cons pe_int (pa_cons (cb_min T.bi (pa_cons pe_int (pa_cons (cb_len T.bi (pa_cons (pv 0) pa_nil)) pa_nil))) pa_nil))) pa_nil))
        · exact (pg_name (i := 1) nd rfl (Or.inl rfl))
        · apply pss_cons
          · exact (ps_set (i := 2) nd rfl (Or.inr rfl) (pe_cf T._law_pool F__law_pool (hr.mono (by decide)) (pa_cons (pv 0) (pa_cons (pv 1) pa_nil))))
          apply pss_cons
          · exact (ps_set (i := 3) nd rfl (Or.inl rfl) (pe_cf T._law_words F__law_words (hr.mono (by decide)) (pa_cons (pv 2) (pa_cons pe_int pa_nil))))
          apply pss_cons
          · exact (ps_set (i := 4) nd rfl (Or.inr rfl) (pe_lst (pa_cons pe_int (pa_cons pe_int (pa_cons pe_int (pa_cons (pe_un un_neg pe_int) (pa_cons pe_int (pa_cons pe_int (pa_cons (pe_cf T._law_take F_takeC (hr.mono (by decide)) (pa_cons (pv 2) (pa_cons (pe_op op_pow pe_int pe_int) pa_nil))) (pa_cons (pe_un un_neg (pe_op op_pow pe_int pe_int)) pa_nil))))))))))
          apply pss_cons
          · exact (ps_set (i := 5) nd rfl (Or.inr rfl) (pe_callTy (Z.call_dictP (by rfl)) rfl T.bi.dict PyProof.Rows.boot_dict (pa_cons (pe_lc (own := [("word", 15)]) (by rfl) nd (pi_list (pv 3)) (blkOk_by (own := [("word", 15)]) (N := ["script", "k", "pool", "words", "menu", "held", "turn", "tree", "term", "first", "less", "odd", "more", "some", "thing", "word"]) (sc := defScope s_law) (by decide +kernel)) (fun _ _ _ _ _ => (pg_name (i := 15) nd rfl (Or.inl rfl))) (fun _ _ _ _ _ => pts_nil) (fun _ _ _ _ _ => (pe_tup (pa_cons (pv 15) (pa_cons (pe_cf T._law_one F__law_one (hr.mono (by decide)) (pa_cons (pv 2) (pa_cons (pv 4) pa_nil))) pa_nil))))) pa_nil)))
          apply pss_one
          apply ps_for (passes_of rfl) rfl
          · exact (pi_range1 rfl T.bi.range (pa_cons pe_int pa_nil))
          · exact (pg_name (i := 6) nd rfl (Or.inl rfl))
          · apply pss_cons
            · exact (ps_set (i := 7) nd rfl (Or.inl rfl) (pe_cf T._law_tree F__law_tree (hr.mono (by decide)) (pa_cons (pv 2) (pa_cons (pv 3) (pa_cons (pe_lst (pa_cons pe_int (pa_cons pe_int (pa_cons pe_int pa_nil)))) (pa_cons (pe_op op_addA pe_int (pe_cf T._law_take F__law_take (hr.mono (by decide)) (pa_cons (pv 2) (pa_cons pe_int pa_nil)))) pa_nil))))))
            apply pss_cons
            · exact (ps_par (i := 8) (j := 9) (by rfl) nd rfl rfl (by decide) rfl rfl (pa_cons (pe_make T.mk_Term F_init (hr.mono (by decide)) rfl T.g_Term T.b_Term___init__ .nil passL (pa_cons (pe_cf T._law_tree_text F__law_tree_text (hr.mono (by decide)) (pa_cons (pv 7) pa_nil)) pa_nil)) (pa_cons (pe_callTy (Z.call_dictP (by rfl)) rfl T.bi.dict PyProof.Rows.boot_dict (pa_cons (LiI.pe_listItems rfl (pv 5) rfl T.bi.list PyProof.Rows.boot_list) pa_nil)) pa_nil)) (by rfl))
            apply pss_cons
            · exact (ps_if (PW.pt (pw_or (pt_cmpR (OpR.or (op_neX hr) (op_neSame hr)) (pe_cfG T._law_told F__law_told (hr.mono (by decide)) gu (pa_cons (pv 8) (pa_cons (pv 5) pa_nil))) (pe_cfG T._law_due F__law_due (hr.mono (by decide)) gu (pa_cons (pv 7) (pa_cons (pv 5) pa_nil))) (nomark _)) (pw_or1 (pt_cmpR (op_ne_dictA (Room.un0 hr)) (pv 5) (pv 9) (nomark _))))) (pss_one (ps_ret pe_bl)) pss_nil)
            apply pss_cons
            · exact (ps_if (pt_not (pt_val (pe_cf T._law_moved_right F__law_moved_right (hr.mono (by decide)) (pa_cons (pv 7) (pa_cons (pv 5) (pa_cons (pe_cf T._law_tree_digits F__law_tree_digits (hr.mono (by decide)) (pa_cons (pv 7) pa_nil)) pa_nil)))))) (pss_one (ps_ret pe_bl)) pss_nil)
            apply pss_cons
            · exact (ps_set (i := 10) nd rfl (Or.inl rfl) (pe_callTy (Z.call_dictP (by rfl)) rfl T.bi.dict PyProof.Rows.boot_dict (pa_cons (pe_lc (own := [("word", 15)]) (by rfl) nd (pi_list (pe_cf T._law_part F__law_part (hr.mono (by decide)) (pa_cons (pv 2) (pa_cons (pv 3) pa_nil)))) (blkOk_by (own := [("word", 15)]) (N := ["script", "k", "pool", "words", "menu", "held", "turn", "tree", "term", "first", "less", "odd", "more", "some", "thing", "word"]) (sc := defScope s_law) (by decide +kernel)) (fun _ _ _ _ _ => (pg_name (i := 15) nd rfl (Or.inl rfl))) (fun _ _ _ _ _ => pts_nil) (fun _ _ _ _ _ => (pe_tup (pa_cons (pv 15) (pa_cons (pe_dget hr.un1 (pv 5) (pv 15) (fun _ _ => rfl)) pa_nil))))) pa_nil)))
            apply pss_cons
            · exact (ps_set (i := 11) nd rfl (Or.inl rfl) (pe_callTy (L2.call_dictP rfl) rfl T.bi.dict PyProof.Rows.boot_dict (pa_cons (pe_op op_addA (LiI.pe_listItems rfl (pv 5) rfl T.bi.list PyProof.Rows.boot_list) (pe_lst (pa_cons (pe_tup (pa_cons (pe_cf T._law_one F__law_one (hr.mono (by decide)) (pa_cons (pv 2) (pa_cons (pv 3) pa_nil))) (pa_cons (pe_cf T._law_one F__law_one (hr.mono (by decide)) (pa_cons (pv 2) (pa_cons (pe_lst (pa_cons pe_non (pa_cons pe_bl (pa_cons pe_str (pa_cons (pe_tup (pa_cons pe_int pa_nil)) pa_nil))))) pa_nil))) pa_nil))) pa_nil))) pa_nil)))
            apply pss_cons
            · exact (ps_set (i := 12) nd rfl (Or.inl rfl) (pe_callTy (L2.call_dictP rfl) rfl T.bi.dict PyProof.Rows.boot_dict (pa_cons (pe_op op_addA (LiI.pe_listItems rfl (pv 5) rfl T.bi.list PyProof.Rows.boot_list) (pe_lst (pa_cons (pe_tup (pa_cons pe_str (pa_cons pe_int pa_nil))) pa_nil))) pa_nil)))
            apply pss_cons
            · apply ps_for (passes_of rfl) rfl
              · exact (pi_list (pe_lst (pa_cons (pv 10) (pa_cons (pv 11) (pa_cons (pv 12) (pa_cons pe_dnewK pa_nil))))))
              · exact (pg_name (i := 13) nd rfl (Or.inl rfl))
              · apply pss_one
                exact (ps_if (pt_cmpR (OpR.or (op_neX hr) (op_neSame hr)) (pe_cfG T._law_told F__law_told (hr.mono (by decide)) gu (pa_cons (pv 8) (pa_cons (pv 13) pa_nil))) (pe_cfG T._law_due F__law_due (hr.mono (by decide)) gu (pa_cons (pv 7) (pa_cons (pv 13) pa_nil))) (nomark _)) (pss_one (ps_ret pe_bl)) pss_nil)
            apply pss_one
            apply ps_for (passes_of rfl) rfl
            · exact (pi_list (pe_lst (pa_cons pe_non (pa_cons pe_int (pa_cons (pe_lst pa_nil) (pa_cons (pe_tup (pa_cons pe_str (pa_cons pe_int pa_nil))) (pa_cons pe_str (pa_cons (LiI.pe_listItems rfl (pv 5) rfl T.bi.list PyProof.Rows.boot_list) pa_nil))))))))
            · exact (pg_name (i := 14) nd rfl (Or.inl rfl))
            · apply pss_one
              exact (ps_if (pt_cmpR (OpR.or (op_neX hr) (op_neSame hr)) (pe_cfG T._law_told F__law_told (hr.mono (by decide)) gu (pa_cons (pv 8) (pa_cons (pv 14) pa_nil))) (pe_lst (pa_cons pe_str (pa_cons (cb_repr T.bi gu hr.units (pa_cons (pv 14) pa_nil)) pa_nil))) (nomark _)) (pss_one (ps_ret pe_bl)) pss_nil)
      apply pss_one
      exact (ps_ret pe_bl)
    refine ⟨_, rfl, lenL hs (min2 ?_)⟩
    refine max2 ?_
    have hm : ∀ n : Nat, (if (if ((n : Nat) : Int) < 10 then ((n : Nat) : Int) else 10) > 1 then (if ((n : Nat) : Int) < 10 then ((n : Nat) : Int) else 10) else 1) ≤ 10 ∧ (0 : Int) ≤ (if (if ((n : Nat) : Int) < 10 then ((n : Nat) : Int) else 10) > 1 then (if ((n : Nat) : Int) < 10 then ((n : Nat) : Int) else 10) else 1) := fun n => by
      split <;> (try split) <;> omega
    obtain ⟨m1, m2⟩ := hm (ns.map V.int).length
    refine ⟨_, rfl, by omega, by omega, ?_⟩
    refine for_it (walk_range (lo := 0)) (fun n σ H' => ∃ o1 o2 o3 o4 o5 o6 o7 o8 o9 o10 o11 o12 o13 o14 o15 : Option V, σ = [some (.ref sa), o1, o2, o3, o4, o5, o6, o7, o8, o9, o10, o11, o12, o13, o14, o15] ∧ Same H H') ⟨none, none, none, none, none, none, none, none, none, none, none, none, none, none, none, rfl, Same.refl _⟩ (fun _ _ _ _ _ => trivial) ?_ ?_
    rotate_left
    · rintro σ H1 ⟨o1, o2, o3, o4, o5, o6, o7, o8, o9, o10, o11, o12, o13, o14, o15, rfl, sm⟩
      exact k H1
    rintro i x σ H1 H1' hi ⟨o1, o2, o3, o4, o5, o6, o7, o8, o9, o10, o11, o12, o13, o14, o15, rfl, sm1⟩ ⟨rfl, rfl⟩
    have hi8 : i < 12 := by omega
    refine ⟨_, rfl, _, rfl, sa, ns, i, by show [V.ref sa, .int (0 + (i : Int))] = _; rw [Int.zero_add], SqL.same sm1 hs, hb, by omega, fun l H2 s2 nl P2 => ?_⟩
    have nlH : H l = none := back_none sm1 nl
    have sH2 : Same H H2 := sm1.trans s2
    refine ⟨_, rfl, l, 4, rfl, by decide, P2, fun pw ws H3 b3 P3 npl npw hws lws ndw shw => ?_⟩
    have sH3 : Same H H3 := But.fresh nlH sH2 b3
    have wdw : ∀ y ∈ ws, Word y := fun y hy => (shw y hy).word
    refine ⟨1, rfl, ?_⟩
    refine ⟨_, rfl, _, _, rfl, rfl, ⟨by decide, by decide, by decide⟩, l, _, rfl, P3, by decide, by decide, fun r H4 b4 P4 r0 r1 => ?_⟩
    refine ⟨_, _, rfl, rfl, ⟨by decide, by decide, by decide⟩, _, rfl, ?_⟩
    refine ⟨by show 8 ≤ sizeLine; decide, fun mn nmn => ?_⟩
    have s5 := sNew (o := .lst [V.int 0, .int 1, .int 7, .int (-1), .int 9, .int 10, .int r, .int (-((10 : Int) ^ (18 : Int).toNat))]) nmn
    have hmn : (upd H4 mn (.lst [V.int 0, .int 1, .int 7, .int (-1), .int 9, .int 10, .int r, .int (-((10 : Int) ^ (18 : Int).toNat))])) mn = some (.lst (([0, 1, 7, -1, 9, 10, r, -1000000000000000000] : List Int).map V.int)) := upd_same
    have P5 := P4.same s5
    have nmnl : mn ≠ l := (P4.ne nmn).symm
    have hws5 := s5 _ _ (b4 _ _ npl hws)
    generalize (upd H4 mn (.lst [V.int 0, .int 1, .int 7, .int (-1), .int 9, .int 10, .int r, .int (-((10 : Int) ^ (18 : Int).toNat))])) = H5 at s5 hmn P5 hws5 ⊢
    have sH5 : Same H H5 := (But.fresh nlH sH3 b4).trans s5
    have hmb : ∀ z ∈ ([0, 1, 7, -1, 9, 10, r, -1000000000000000000] : List Int), z < 1000000000 ∧ -1000000000000000000 ≤ z := fun z hz => by
      have e9 : (10 : Int) ^ (9 : Int).toNat = 1000000000 := by decide
      rw [e9] at r1
      simp only [List.mem_cons, List.not_mem_nil, or_false] at hz
      omega
    generalize hme : ([0, 1, 7, -1, 9, 10, r, -1000000000000000000] : List Int) = me at hmn hmb
    have lme : me.length = 8 := by rw [← hme]; rfl
    clear hme
    refine ⟨_, rfl, pw, rfl, ⟨_, .inl (.inl hws5)⟩, fun D nD => ?_⟩
    have nDl : D ≠ l := (P5.ne nD).symm
    refine lc_it (walk_list (xs := ws.map V.str)) (fun j H' => ∃ (xs : List V) (zs : List Int), H' D = some (.lst xs) ∧ xs.length = j ∧ zs.length = j ∧ (∀ z ∈ zs, z < 1000000000 ∧ -1000000000000000000 ≤ z) ∧ PrsAt H' xs (((ws.take j).map (Sum.inr : Str → Key)).zip (zs.map V.int)) ∧ But l H5 H' ∧ PoolAt H' l)
      ⟨[], [], upd_same, rfl, rfl, (fun z hz => nomatch hz), .nil, But.same (sNew nD) l, P5.same (sNew nD)⟩ (fun _ _ _ ⟨_, _, _, _, _, _, _, b, _⟩ => .inl (.inl (b _ _ npl hws5))) ?_ ?_
    · rintro j x Hb Hb' hj ⟨xs, zs, hA, lx, lz, hzb, prs, bb, Pb⟩ ⟨rfl, hx⟩
      obtain ⟨wd, hwd, rfl⟩ := map_at hx
      have hj4 : j < 4 := by
        have := (List.getElem?_eq_some_iff.mp hwd).1
        omega
      refine ⟨rfl, _, rfl, _, rfl, _, rfl, l, .ref mn, rfl, Pb, .inl ⟨mn, _, rfl, nmnl, .inl (.inl (bb _ _ nmnl hmn)), ?_, by rw [List.length_map, lme]; decide, fun q y Hc bc Pc hy => ?_⟩⟩
      · intro e
        have := congrArg List.length e
        rw [List.length_map, lme] at this
        cases this
      obtain ⟨z, hz, rfl⟩ := map_at hy
      refine ⟨by show 2 ≤ sizeLine; decide, fun t nt => ?_⟩
      have st := sNew (o := .tup [V.str wd, .int z]) nt
      have ht : (upd Hc t (.tup [V.str wd, .int z])) t = some (.tup [V.str wd, .int z]) := upd_same
      have hA2 := st _ _ (bc _ _ nDl hA)
      have ntD : t ≠ D := (ne_of_none (bc _ _ nDl hA) nt).symm
      have bst := (bb.trans bc).trans (But.same st l)
      have Pst := Pc.same st
      have prs2 : PrsAt (upd Hc t (.tup [V.str wd, .int z])) xs (((ws.take j).map (Sum.inr : Str → Key)).zip (zs.map V.int)) := PrsAt.tk ((Pb.tk bc).trans (TK.of st)) prs
      generalize (upd Hc t (.tup [V.str wd, .int z])) = Hd at ht hA2 bst Pst prs2 ⊢
      have tg : TK Hd (upd Hd D (.lst (xs ++ [V.ref t]))) := TK.lst hA2
      refine ⟨_, hA2, by omega, xs ++ [V.ref t], zs ++ [z], upd_same, by rw [List.length_append, lx]; rfl, by rw [List.length_append, lz]; rfl, fun y hy => ?_, ?_, But.fr nD bst, ?_⟩
      · rcases List.mem_append.mp hy with h | h
        · exact hzb y h
        · rw [List.mem_singleton] at h
          rw [h]
          exact hmb z (List.mem_of_getElem? hz)
      · rw [take_snoc hwd, List.map_append, List.map_append, List.zip_append (by rw [List.length_map, List.length_map, List.length_take]; have := (List.getElem?_eq_some_iff.mp hwd).1; omega)]
        exact Paired.snoc (PrsAt.tk tg prs2) ⟨t, rfl, _, .inl (by rw [upd_ne ntD]; exact ht), rfl⟩
      · obtain ⟨p1, p2, e, r⟩ := Pst
        exact ⟨p1, p2, by rw [upd_ne nDl.symm]; exact e, r⟩
    rintro H6 ⟨xs, zs, hA, lx, lz, hzb, prs, bb, P6⟩
    rw [List.length_map] at lz prs
    rw [List.take_length, zip_held ndw lz] at prs
    refine ⟨⟨D, xs, _, rfl, .inr hA, prs, held_nodup ndw, fun hd nhd => ?_⟩⟩
    have s7 := sNew (o := .dK (heldK ws (hOf ws zs))) nhd
    have hhd : (upd H6 hd (.dK (heldK ws (hOf ws zs)))) hd = some (.dK (heldK ws (hOf ws zs))) := upd_same
    have P7 := P6.same s7
    have nhl : hd ≠ l := (P6.ne nhd).symm
    have hws7 := s7 _ _ (bb _ _ npl hws5)
    generalize (upd H6 hd (.dK (heldK ws (hOf ws zs)))) = H7 at s7 hhd P7 hws7 ⊢
    have sH7 : Same H H7 := (But.fresh nlH sH5 bb).trans s7
    have hhb : ∀ v ∈ ws, hOf ws zs v < 100000000000000000000 := fun v hv => by
      obtain ⟨q, hq⟩ := List.getElem?_of_mem hv
      have lq := (List.getElem?_eq_some_iff.mp hq).1
      have e2 : zs[q]? = some zs[q] := List.getElem?_eq_getElem (by omega)
      rw [hOf_at ndw hq e2]
      have := (hzb _ (List.getElem_mem (by omega : q < zs.length))).1
      omega
    have hhb2 : ∀ v ∈ ws, -1000000000000000000 ≤ hOf ws zs v ∧ hOf ws zs v < 1000000000 := fun v hv => by
      obtain ⟨q, hq⟩ := List.getElem?_of_mem hv
      have lq := (List.getElem?_eq_some_iff.mp hq).1
      have e2 : zs[q]? = some zs[q] := List.getElem?_eq_getElem (by omega)
      rw [hOf_at ndw hq e2]
      have := (hzb _ (List.getElem_mem (by omega : q < zs.length)))
      omega
    generalize hOf ws zs = h at hhd hhb hhb2
    clear hA lx hzb prs bb P6 nhd s7 hmn hmb s5 P5 hws5 nD nDl b3 b4 P4 P3 hws
    refine ⟨_, rfl, by decide, by decide, ?_⟩
    refine for_it (walk_range (lo := 0)) (fun m σ H' => ∃ o6 o7 o8 o9 o10 o11 o12 o13 o14 o15 : Option V, σ = [some (.ref sa), some (.int (0 + (i : Int))), some (.ref l), some (.ref pw), some (.ref mn), some (.ref hd), o6, o7, o8, o9, o10, o11, o12, o13, o14, o15] ∧ PoolAt H' l ∧ H' pw = some (.lst (ws.map V.str)) ∧ H' hd = some (.dK (heldK ws h)) ∧ Same H H')
      ⟨_, _, _, _, _, _, _, _, _, _, rfl, P7, hws7, hhd, sH7⟩ (fun _ _ _ _ _ => trivial) ?_ ?_
    rotate_left
    · rintro σ Hz ⟨q6, q7, q8, q9, q10, q11, q12, q13, q14, q15, rfl, _, _, _, sm⟩
      exact ⟨_, _, _, _, _, _, _, _, _, _, _, _, _, _, _, rfl, sm⟩
    clear P7 hws7 hhd sH7
    rintro m x σ Ha Ha' hm2 ⟨q6, q7, q8, q9, q10, q11, q12, q13, q14, q15, rfl, Pa, hwa, hda, sHa⟩ ⟨rfl, rfl⟩
    refine ⟨_, rfl, _, rfl, by show 3 ≤ sizeLine; decide, fun dl ndl => ?_⟩
    have sb := sNew (o := .lst [V.int 0, .int 1, .int 9]) ndl
    have hdl : (upd Ha' dl (.lst [V.int 0, .int 1, .int 9])) dl = some (.lst (([0, 1, 9] : List Int).map V.int)) := upd_same
    have ndll : dl ≠ l := (Pa.ne ndl).symm
    have Pb := Pa.same sb
    have hwb := sb _ _ hwa
    have hdb := sb _ _ hda
    have sHb := sHa.trans sb
    generalize (upd Ha' dl (.lst [V.int 0, .int 1, .int 9])) = Hb at sb hdl Pb hwb hdb sHb ⊢
    clear sb Pa hwa hda sHa
    refine ⟨_, rfl, l, 3, rfl, Pb, by decide, by decide, fun r Hc bc Pc r0 r1 => addI ?_⟩
    refine treesG_of r0 r1 Pc npl ndll (bc _ _ npl hwb) (bc _ _ ndll hdl) (fun e => by rw [e] at lws; cases lws) (by omega) (by decide) wdw (by decide) fun v t Hd bd Pd hv tok d3 tof => ?_
    have hwd := bd _ _ npl (bc _ _ npl hwb)
    have hdd := bd _ _ nhl (bc _ _ nhl hdb)
    have sHd : Same H Hd := But.fresh nlH (But.fresh nlH sHb bc) bd
    have tws : ∀ w ∈ t.ws, w ∈ ws := fun w hw => tof.1 w hw
    clear bc bd Pc hwb hdb sHb hdl Pb
    refine ⟨_, rfl, v, t, rfl, hv, tok, d3, by decide, fun He se => ?_⟩
    intro x2 dx2 n1 n2 ne
    refine make_term tok d3 n1 n2 ne fun Hf sf tm => ⟨rfl, ?_⟩
    have sef := se.trans sf
    refine ⟨_, rfl, hd, _, rfl, sef _ _ hdd, fun Hg p ts keep np nts pts hp prd => ?_⟩
    refine ⟨⟨p, ts.map V.ref, _, rfl, .inr hp, prs_of_paired prd, held_nodup ndw, fun fd nfd => ?_⟩⟩
    refine ⟨_, _, rfl, ?_⟩
    have sg : Same Hf Hg := fun b o hb => keep b o hb
    have sfd := sNew (o := .dK (heldK ws h)) nfd
    have hfd : (upd Hg fd (.dK (heldK ws h))) fd = some (.dK (heldK ws h)) := upd_same
    generalize (upd Hg fd (.dK (heldK ws h))) = Hh at sfd hfd ⊢
    have sdh : Same Hd Hh := sef.trans (sg.trans sfd)
    have tmh : TermAt K a.C_Term Hh x2 t := tm.same (sg.trans sfd)
    have hvh := tr_same sdh hv
    have hdh := sdh _ _ hdd
    have hwh := sdh _ _ hwd
    have Ph := Pd.same sdh
    have sHh := sHd.trans sdh
    clear hv hdd hwd Pd sHd sdh tm se sf sef sg keep hp prd nts nfd np pts
    have okH : ∀ (H' : Hp) n x, valV (heldK ws h) (.inr n) = some x → VOk K H' x := fun H' n x e => by
      obtain ⟨z, rfl⟩ := held_int e
      exact .int z
    refine ⟨_, rfl, _, rfl, ?_⟩
    dsimp only [tCons, tC, tNil, List.cons_append, List.nil_append]
    refine told_then tmh d3 hdh (okH _) hvh tok fun l1 Hi si k1 => ?_
    refine ⟨_, rfl, _, rfl, ?_⟩
    dsimp only [tCons, tC, tNil, List.cons_append, List.nil_append]
    refine k1 Hi _ _ (Same.refl _) fun Hj sj => ⟨_, rfl, ?_⟩
    have sij := si.trans sj
    refine ⟨_, rfl, _, rfl, hd, fd, _, _, rfl, rfl, sij _ _ hdh, sij _ _ hfd, rfl, fun q hq => ?_, ⟨_, rfl, ?_⟩⟩
    · obtain ⟨w', hw', rfl⟩ := List.mem_map.mp hq
      exact ⟨held_get hw', rfl⟩
    refine ⟨_, rfl, _, rfl, _, rfl, v, t, rfl, tr_same sij hvh, tok, d3, fun q Hk sk nq hq => ?_⟩
    have s3 := sij.trans sk
    refine ⟨v, hd, q, t, ws, h, ascI t.ns, rfl, tr_same s3 hvh, tok, d3, s3 _ _ hdh, ndw, by omega, tws, hhb, hq, fun n hn => mem_ascI.mpr hn, fun Hl sl' => ⟨_, rfl, ?_⟩⟩
    have s4 := s3.trans sl'
    have tml : TermAt K a.C_Term Hl x2 t := tmh.same s4
    have hvl := tr_same s4 hvh
    have hdl2 := s4 _ _ hdh
    have hwl := s4 _ _ hwh
    have Pl := Ph.same s4
    have sHl := sHh.trans s4
    clear tmh hvh hdh hwh Ph sHh s4 s3 sij si sj sk sl' hfd hq nq k1
    refine ⟨_, rfl, _, rfl, l, pw, ws, rfl, Pl, npl, hwl, by omega, fun q ys Hm bm Pm nq hq sub => ?_⟩
    refine ⟨q, rfl, ⟨_, .inl (.inl hq)⟩, fun D nD => ?_⟩
    have hdm := bm _ _ nhl hdl2
    have hwm := bm _ _ npl hwl
    have lys : ys.length ≤ 4 := by have := sub.length_le; omega
    have ndy : ys.Nodup := sub.nodup ndw
    have yin : ∀ y ∈ ys, y ∈ ws := fun y hy => sub.subset hy
    refine lc_it (walk_list (xs := ys.map V.str)) (fun j H' => ∃ xs : List V, H' D = some (.lst xs) ∧ xs.length = j ∧ PrsAt H' xs (heldK (ys.take j) h) ∧ Same Hm H') ⟨[], upd_same, rfl, .nil, sNew nD⟩ (fun _ _ _ ⟨_, _, _, _, s⟩ => .inl (.inl (s _ _ hq))) ?_ ?_
    · rintro j x Hn Hn' hj ⟨xs, hA, lx, prs, sn⟩ ⟨rfl, hx⟩
      obtain ⟨wd, hwd', rfl⟩ := map_at hx
      have hj4 : j < 4 := by
        have := (List.getElem?_eq_some_iff.mp hwd').1
        omega
      refine ⟨rfl, _, rfl, _, rfl, _, rfl, hd, _, rfl, .inl ⟨_, .inr wd, .inl (sn _ _ hdm), rfl, (held_get (yin wd (List.mem_of_getElem? hwd'))).symm⟩, ?_⟩
      refine ⟨by show 2 ≤ sizeLine; decide, fun tt ntt => ?_⟩
      have st := sNew (o := .tup [V.str wd, .int (h wd)]) ntt
      have ht : (upd Hn' tt (.tup [V.str wd, .int (h wd)])) tt = some (.tup [V.str wd, .int (h wd)]) := upd_same
      have hA2 := st _ _ hA
      have ntD : tt ≠ D := (ne_of_none hA ntt).symm
      have prs2 : PrsAt (upd Hn' tt (.tup [V.str wd, .int (h wd)])) xs (heldK (ys.take j) h) := PrsAt.tk (TK.of st) prs
      generalize (upd Hn' tt (.tup [V.str wd, .int (h wd)])) = Ho at st ht hA2 prs2 ⊢
      have tg : TK Ho (upd Ho D (.lst (xs ++ [V.ref tt]))) := TK.lst hA2
      refine ⟨_, hA2, by omega, xs ++ [V.ref tt], upd_same, by rw [List.length_append, lx]; rfl, ?_, sUpd nD (sn.trans st)⟩
      have eh : heldK (ys.take (j + 1)) h = heldK (ys.take j) h ++ [(Sum.inr wd, V.int (h wd))] := by
        unfold heldK
        rw [take_snoc hwd', List.map_append]
        rfl
      rw [eh]
      exact Paired.snoc (PrsAt.tk tg prs2) ⟨tt, rfl, _, .inl (by rw [upd_ne ntD]; exact ht), rfl⟩
    rintro Hn ⟨xs, hA, lx, prs, sn⟩
    rw [List.length_map, List.take_length] at prs
    refine ⟨⟨D, xs, _, rfl, .inr hA, prs, held_nodup ndy, fun ld nld => ?_⟩⟩
    have so := sNew (o := .dK (heldK ys h)) nld
    have hld : (upd Hn ld (.dK (heldK ys h))) ld = some (.dK (heldK ys h)) := upd_same
    have nldl : ld ≠ l := ((Pm.same sn).ne nld).symm
    generalize (upd Hn ld (.dK (heldK ys h))) = Ho at so hld ⊢
    have sno := sn.trans so
    have Po := Pm.same sno
    have hdo := sno _ _ hdm
    have hwo := sno _ _ hwm
    have tmo : TermAt K a.C_Term Ho x2 t := tm_but (by obtain ⟨p1, p2, e, _⟩ := Pl; exact ⟨_, e⟩) bm sno tml
    have hvo : Dp K Ho v t.d := tr_tk ((Pl.tk bm).trans (TK.of sno)) t hvl
    have sHo : Same H Ho := (But.fresh nlH sHl bm).trans sno
    clear hA lx prs sn so sno Pm hdm hwm nD hq nq bm hdl2 hwl Pl tml hvl sHl
    refine ⟨_, rfl, hd, _, rfl, hdo, fun Hp p ts keep np nts pts hp prd => ?_⟩
    have sp : Same Ho Hp := fun b o hb => keep b o hb
    have npl' : p ≠ l := (Po.ne np).symm
    have Pp := Po.same sp
    refine ⟨_, rfl, _, rfl, l, .ref pw, rfl, Pp, .inl ⟨pw, _, rfl, npl, .inl (.inl (sp _ _ hwo)), ?_, by rw [List.length_map]; omega, fun q1 y Hq bq Pq hy => ?_⟩⟩
    · intro e
      have := congrArg List.length e
      rw [List.length_map, lws] at this
      cases this
    obtain ⟨wd, hwd1, rfl⟩ := map_at hy
    refine ⟨_, rfl, by show 1 ≤ sizeLine; decide, fun t1 nt1 => ?_⟩
    have s1' := sNew (o := .tup [V.int 1]) nt1
    have ht1 : (upd Hq t1 (.tup [V.int 1])) t1 = some (.tup [V.int 1]) := upd_same
    have Pr := Pq.same s1'
    have nt1l : t1 ≠ l := (Pq.ne nt1).symm
    generalize (upd Hq t1 (.tup [V.int 1])) = Hr at s1' ht1 Pr ⊢
    refine ⟨by show 4 ≤ sizeLine; decide, fun ol nol => ?_⟩
    have s2' := sNew (o := .lst [V.non, .bl true, .str "1", .ref t1]) nol
    have hol : (upd Hr ol (.lst [V.non, .bl true, .str "1", .ref t1])) ol = some (.lst [V.non, .bl true, .str "1", .ref t1]) := upd_same
    have Ps := Pr.same s2'
    have noll : ol ≠ l := (Pr.ne nol).symm
    have ht1s := s2' _ _ ht1
    generalize (upd Hr ol (.lst [V.non, .bl true, .str "1", .ref t1])) = Hs at s2' hol Ps ht1s ⊢
    refine ⟨l, .ref ol, rfl, Ps, .inl ⟨ol, _, rfl, noll, .inl (.inl hol), (fun e => nomatch e), by show 4 < 1000; decide, fun q2 y2 Ht bt Pt hy2 => ?_⟩⟩
    have ht1t := bt _ _ nt1l ht1s
    have vy : VOk K Ht y2 := by
      have := List.mem_of_getElem? hy2
      simp only [List.mem_cons, List.not_mem_nil, or_false] at this
      rcases this with rfl | rfl | rfl | rfl
      · exact .non
      · exact .bl true
      · exact .str "1"
      · exact .tup (.inl (.inl ht1t))
    have hpt := bt _ _ npl' ((s1'.trans s2') _ _ (bq _ _ npl' hp))
    have tpt : TK Hp Ht := ((Pp.tk bq).trans (TK.of (s1'.trans s2'))).trans (Ps.tk bt)
    have bot : But l Ho Ht := (But.same sp l).trans (bq.trans ((But.same (s1'.trans s2') l).trans bt))
    refine ⟨by show 2 ≤ sizeLine; decide, fun tp ntp => ?_⟩
    have s3' := sNew (o := .tup [V.str wd, y2]) ntp
    have htp : (upd Ht tp (.tup [V.str wd, y2])) tp = some (.tup [V.str wd, y2]) := upd_same
    have hpu := s3' _ _ hpt
    generalize (upd Ht tp (.tup [V.str wd, y2])) = Hu at s3' htp hpu ⊢
    refine ⟨by show 1 ≤ sizeLine; decide, fun sl2 nsl => ?_⟩
    have s4' := sNew (o := .lst [V.ref tp]) nsl
    have hsl : (upd Hu sl2 (.lst [V.ref tp])) sl2 = some (.lst [V.ref tp]) := upd_same
    have htp2 := s4' _ _ htp
    have hpv := s4' _ _ hpu
    generalize (upd Hu sl2 (.lst [V.ref tp])) = Hv at s4' hsl htp2 hpv ⊢
    have lts : ts.length = ws.length := by have := Paired.length prd; unfold heldK at this; rw [List.length_map] at this; exact this
    refine addL hpv hsl (by rw [List.length_map]; show _ + 1 ≤ _; omega) fun rl Hw nrl s5' hrl => ?_
    have suw := (s3'.trans s4').trans s5'
    have e4 : ts.map V.ref ++ [V.ref tp] = (ts ++ [tp]).map V.ref := by rw [List.map_append]; rfl
    rw [e4] at hrl
    have prs : Paired (fun (p : Addr) (kv : Key × V) => SqT K Hw p [kV kv.1, kv.2]) (ts ++ [tp]) (heldK ws h ++ [((Sum.inr wd : Key), y2)]) :=
      Paired.snoc (Paired.mapP prd fun _ _ hh => SqT.tk (tpt.trans (TK.of suw)) (.inl (.inl hh))) (.inl (.inl (s5' _ _ htp2)))
    refine ⟨rl, _, _, rfl, .inl (.inl hrl), prs, fun ode node => ?_⟩
    have s6' := sNew (o := .dK (mergeK [] (heldK ws h ++ [((Sum.inr wd : Key), y2)]))) node
    have hode : (upd Hw ode (.dK (mergeK [] (heldK ws h ++ [((Sum.inr wd : Key), y2)])))) ode = some (.dK (mergeK [] (heldK ws h ++ [((Sum.inr wd : Key), y2)]))) := upd_same
    generalize (upd Hw ode (.dK (mergeK [] (heldK ws h ++ [((Sum.inr wd : Key), y2)])))) = Hx at s6' hode ⊢
    have sutx := suw.trans s6'
    have vyx : VOk K Hx y2 := vy.same sutx
    have Px := Pt.same sutx
    have hdx := sutx _ _ (bot _ _ nhl hdo)
    have hwx := sutx _ _ (bot _ _ npl hwo)
    have hldx := sutx _ _ (bot _ _ nldl hld)
    have tmx : TermAt K a.C_Term Hx x2 t := tm_but (by obtain ⟨p1, p2, e, _⟩ := Po; exact ⟨_, e⟩) bot sutx tmo
    have hvx : Dp K Hx v t.d := tr_tk ((Po.tk bot).trans (TK.of sutx)) t hvo
    have sHx : Same H Hx := (But.fresh nlH sHo bot).trans sutx
    have odd : SomeD K Hx (.ref ode) := ⟨ode, _, rfl, hode, merge_ok vyx⟩
    clear prs hrl prd hp hpu hpv hpt keep np nts pts sp Pp Pq Pr Ps Pt bq bt bot tpt s1' s2' s3' s4' s5' s6' suw sutx hsl htp htp2 hol ht1 ht1s ht1t vy vyx hode Po hdo hwo hld tmo hvo sHo
    refine ⟨_, rfl, hd, _, rfl, hdx, fun Hp p ts keep np nts pts hp prd => ?_⟩
    have sp : Same Hx Hp := fun b o hb => keep b o hb
    refine ⟨by show 2 ≤ sizeLine; decide, fun tp ntp => ?_⟩
    have s3' := sNew (o := .tup [V.str "zzzzzzzz", .int 5]) ntp
    have htp : (upd Hp tp (.tup [V.str "zzzzzzzz", .int 5])) tp = some (.tup [V.str "zzzzzzzz", .int 5]) := upd_same
    have hpu := s3' _ _ hp
    generalize (upd Hp tp (.tup [V.str "zzzzzzzz", .int 5])) = Hu at s3' htp hpu ⊢
    refine ⟨by show 1 ≤ sizeLine; decide, fun sl2 nsl => ?_⟩
    have s4' := sNew (o := .lst [V.ref tp]) nsl
    have hsl : (upd Hu sl2 (.lst [V.ref tp])) sl2 = some (.lst [V.ref tp]) := upd_same
    have htp2 := s4' _ _ htp
    have hpv := s4' _ _ hpu
    generalize (upd Hu sl2 (.lst [V.ref tp])) = Hv at s4' hsl htp2 hpv ⊢
    have lts2 : ts.length = ws.length := by have := Paired.length prd; unfold heldK at this; rw [List.length_map] at this; exact this
    refine addL hpv hsl (by rw [List.length_map]; show _ + 1 ≤ _; omega) fun rl Hw nrl s5' hrl => ?_
    have suw := (s3'.trans s4').trans s5'
    have e4 : ts.map V.ref ++ [V.ref tp] = (ts ++ [tp]).map V.ref := by rw [List.map_append]; rfl
    rw [e4] at hrl
    have prs : Paired (fun (p : Addr) (kv : Key × V) => SqT K Hw p [kV kv.1, kv.2]) (ts ++ [tp]) (heldK ws h ++ [((Sum.inr "zzzzzzzz" : Key), V.int 5)]) :=
      Paired.snoc (Paired.mapP prd fun _ _ hh => SqT.tk (TK.of suw) (.inl (.inl hh))) (.inl (.inl (s5' _ _ htp2)))
    refine ⟨rl, _, _, rfl, .inl (.inl hrl), prs, fun mre nmre => ?_⟩
    have s6' := sNew (o := .dK (mergeK [] (heldK ws h ++ [((Sum.inr "zzzzzzzz" : Key), V.int 5)]))) nmre
    have hmre : (upd Hw mre (.dK (mergeK [] (heldK ws h ++ [((Sum.inr "zzzzzzzz" : Key), V.int 5)])))) mre = some (.dK (mergeK [] (heldK ws h ++ [((Sum.inr "zzzzzzzz" : Key), V.int 5)]))) := upd_same
    generalize (upd Hw mre (.dK (mergeK [] (heldK ws h ++ [((Sum.inr "zzzzzzzz" : Key), V.int 5)])))) = Hy at s6' hmre ⊢
    have sxy := sp.trans (suw.trans s6')
    have more : SomeD K Hy (.ref mre) := ⟨mre, _, rfl, hmre, merge_ok (.int 5)⟩
    clear prs hrl prd hp hpu hpv keep np nts pts sp s3' s4' s5' s6' suw hsl htp htp2 hmre
    refine ⟨_, rfl, _, rfl, _, rfl, fun ed ned => ?_⟩
    have s7' := sNew (o := .dK []) ned
    have hed : (upd Hy ed (.dK [])) ed = some (.dK []) := upd_same
    generalize (upd Hy ed (.dK [])) = Hz at s7' hed ⊢
    refine ⟨by show 4 ≤ sizeLine; decide, fun R nR => ?_⟩
    have s8' := sNew (o := .lst [V.ref ld, .ref ode, .ref mre, .ref ed]) nR
    have hR : (upd Hz R (.lst [V.ref ld, .ref ode, .ref mre, .ref ed])) R = some (.lst [V.ref ld, .ref ode, .ref mre, .ref ed]) := upd_same
    generalize (upd Hz R (.lst [V.ref ld, .ref ode, .ref mre, .ref ed])) = Ja at s8' hR ⊢
    have s78 := s7'.trans s8'
    have sxJ := sxy.trans s78
    have all : ∀ x ∈ [V.ref ld, .ref ode, .ref mre, .ref ed], SomeD K Ja x := fun x hx => by
      simp only [List.mem_cons, List.not_mem_nil, or_false] at hx
      rcases hx with rfl | rfl | rfl | rfl
      · refine ⟨ld, _, rfl, sxJ _ _ hldx, fun n y e => ?_⟩
        obtain ⟨z, rfl⟩ := held_int e
        exact .int z
      · exact odd.same sxJ
      · exact more.same s78
      · exact ⟨ed, _, rfl, s8' _ _ hed, fun n y e => by simp [valV] at e⟩
    have tmj : TermAt K a.C_Term Ja x2 t := tmx.same sxJ
    have hvj := tr_same sxJ hvx
    have hdj := sxJ _ _ hdx
    have hwj := sxJ _ _ hwx
    have Pj := Px.same sxJ
    have sHj := sHx.trans sxJ
    clear tmx hvx hdx hwx Px sHx sxJ s78 s7' s8' hed nR ned odd more sxy hldx
    refine ⟨R, rfl, ⟨_, .inl (.inl hR)⟩, ?_⟩
    refine for_it (walk_list (xs := [V.ref ld, .ref ode, .ref mre, .ref ed])) (fun j σ H' => ∃ (o13 o14 o15 : Option V), σ = [some (.ref sa), some (.int (0 + (i : Int))), some (.ref l), some (.ref pw), some (.ref mn), some (.ref hd), some (.int (0 + (m : Int))), some v, some (.ref x2), some (.ref fd), some (.ref ld), some (.ref ode), some (.ref mre), o13, o14, o15] ∧ Same Ja H') ⟨_, _, _, rfl, Same.refl _⟩ (fun _ _ _ _ ⟨_, _, _, _, s⟩ => .inl (.inl (s _ _ hR))) ?_ ?_
    · rintro j x σ Jb Jb' hj ⟨p13, p14, p15, rfl, sj⟩ ⟨rfl, hx⟩
      obtain ⟨dd, kvs, rfl, hdd2, okd⟩ := ((all x (List.mem_of_getElem? hx)).same sj).h
      refine ⟨_, rfl, _, rfl, ?_⟩
      dsimp only [tCons, tC, tNil, List.cons_append, List.nil_append]
      refine told_then (tmj.same sj) d3 hdd2 okd (tr_same sj hvj) tok fun l1 Ji si k1 => ?_
      refine ⟨_, rfl, _, rfl, ?_⟩
      dsimp only [tCons, tC, tNil, List.cons_append, List.nil_append]
      refine k1 Ji _ _ (Same.refl _) fun Jj sjj => ⟨_, rfl, ?_⟩
      exact ⟨_, _, _, rfl, sj.trans (si.trans sjj)⟩
    rintro σ Jb ⟨p13, p14, p15, rfl, sj⟩
    refine ⟨Nat.zero_le _, fun e1 ne1 => ?_⟩
    have s1' := sNew (o := .lst []) ne1
    have he1 : (upd Jb e1 (.lst [])) e1 = some (.lst []) := upd_same
    generalize (upd Jb e1 (.lst [])) = Jc at s1' he1 ⊢
    refine ⟨by show 2 ≤ sizeLine; decide, fun t2 nt2 => ?_⟩
    have s2' := sNew (o := .tup [V.str "a", .int 1]) nt2
    have ht2 : (upd Jc t2 (.tup [V.str "a", .int 1])) t2 = some (.tup [V.str "a", .int 1]) := upd_same
    generalize (upd Jc t2 (.tup [V.str "a", .int 1])) = Jd at s2' ht2 ⊢
    have sjd := sj.trans (s1'.trans s2')
    refine ⟨_, rfl, hd, _, rfl, sjd _ _ hdj, fun Je p ts keep np nts pts hp prd => ?_⟩
    have s3' : Same Jd Je := fun b o hb => keep b o hb
    refine ⟨by show 6 ≤ sizeLine; decide, fun R2 nR2 => ?_⟩
    have s4' := sNew (o := .lst [V.non, .int 5, .ref e1, .ref t2, .str "a", .ref p]) nR2
    have hR2 : (upd Je R2 (.lst [V.non, .int 5, .ref e1, .ref t2, .str "a", .ref p])) R2 = some (.lst [V.non, .int 5, .ref e1, .ref t2, .str "a", .ref p]) := upd_same
    generalize (upd Je R2 (.lst [V.non, .int 5, .ref e1, .ref t2, .str "a", .ref p])) = Jf at s4' hR2 ⊢
    have sjf := sjd.trans (s3'.trans s4')
    have things : ∀ x ∈ [V.non, .int 5, .ref e1, .ref t2, .str "a", .ref p], ThingQ K Jf x := fun x hx => by
      simp only [List.mem_cons, List.not_mem_nil, or_false] at hx
      rcases hx with rfl | rfl | rfl | rfl | rfl | rfl
      · exact ⟨_, .no (ty := "NoneType") (.base .non) (by decide +kernel), RepS.small .non (by decide +kernel) (by decide +kernel) (by decide +kernel) (by decide +kernel) (by decide +kernel)⟩
      · exact ⟨_, .no (ty := "int") (.base (.int 5)) (by decide +kernel), RepS.small (.int 5) (by decide +kernel) (by decide +kernel) (by decide +kernel) (by decide +kernel) (by decide +kernel)⟩
      · have h1 := (s2'.trans (s3'.trans s4')) _ _ he1
        exact ⟨_, .no (ty := "list") (.base (.lst h1)) (by decide +kernel), RepS.small (d := .list []) (.lst (.inl (.inl h1)) .nil) (by decide +kernel) (by decide +kernel) (by decide +kernel) (by decide +kernel) (by decide +kernel)⟩
      · have h1 := (s3'.trans s4') _ _ ht2
        exact ⟨_, .no (ty := "tuple") (tyT (K := K) (.inl (.inl h1))) (by decide +kernel), RepS.small (d := .tuple [.str "a", .int 1]) (.tup (.inl (.inl h1)) (.cons (.str _) (.cons (.int _) .nil))) (by decide +kernel) (by decide +kernel) (by decide +kernel) (by decide +kernel) (by decide +kernel)⟩
      · exact ⟨_, .no (ty := "str") (.base (.str "a")) (by decide +kernel), RepS.small (.str "a") (by decide +kernel) (by decide +kernel) (by decide +kernel) (by decide +kernel) (by decide +kernel)⟩
      · have h1 := s4' _ _ hp
        obtain ⟨z1, z2, z3, z4, z5⟩ := items_small (h := h) (W := ws) fun w hw => ⟨wdw w hw, (hhb2 w hw).1, (hhb2 w hw).2⟩
        refine ⟨_, .no (ty := "list") (.base (.lst h1)) (by decide +kernel), RepS.small (d := .list (itemsD ws h)) (.lst (.inl (.inl h1)) (items_dp (Paired.mapP prd fun _ _ hh => s4' _ _ hh))) (by simp [PyData.showable, z1]) (by simp only [PyData.depth]; omega) (by simp [PyData.canLay0, z3]) (by simp [PyData.intsShort, z4]) (by simp only [PyData.weight]; omega)⟩
    have tmf : TermAt K a.C_Term Jf x2 t := tmj.same sjf
    refine ⟨R2, rfl, ⟨_, .inl (.inl hR2)⟩, ?_⟩
    refine for_it (walk_list (xs := [V.non, .int 5, .ref e1, .ref t2, .str "a", .ref p])) (fun j σ H' => ∃ (o13 o14 o15 : Option V), σ = [some (.ref sa), some (.int (0 + (i : Int))), some (.ref l), some (.ref pw), some (.ref mn), some (.ref hd), some (.int (0 + (m : Int))), some v, some (.ref x2), some (.ref fd), some (.ref ld), some (.ref ode), some (.ref mre), o13, o14, o15] ∧ Same Jf H') ⟨_, _, _, rfl, Same.refl _⟩ (fun _ _ _ _ ⟨_, _, _, _, s⟩ => .inl (.inl (s _ _ hR2))) ?_ ?_
    rotate_left
    · rintro σ Jg ⟨r13, r14, r15, rfl, sg⟩
      have sz := sjf.trans sg
      exact ⟨_, _, _, _, _, _, _, _, _, _, rfl, Pj.same sz, sz _ _ hwj, sz _ _ hdj, sHj.trans sz⟩
    rintro j x σ Jg Jg' hj ⟨r13, r14, r15, rfl, sg⟩ ⟨rfl, hx⟩
    obtain ⟨rr, hq, rs⟩ := ((things x (List.mem_of_getElem? hx)).same sg).h
    refine ⟨_, rfl, _, rfl, ?_⟩
    dsimp only [tCons, tC, tNil, List.cons_append, List.nil_append]
    refine ⟨x2, x, t, none, rfl, tmf.same sg, d3, hq, fun _ => ⟨rr, rs, fun l1 Jh sh h1 => ?_⟩, (fun kvs n e => nomatch e), (fun kvs n e => nomatch e)⟩
    refine ⟨_, rfl, rs Jh _ sh ?_⟩
    refine ⟨by show 2 ≤ sizeLine; decide, fun l2 nl2 => ?_⟩
    have sl2' := sNew (o := .lst (noneL rr)) nl2
    refine .inr ⟨l1, l2, noneL rr, rfl, rfl, .inl (.inl (sl2' _ _ h1)), .inl (.inl upd_same), fun y hy => ?_, ⟨_, rfl, ?_⟩⟩
    · unfold noneL at hy
      simp only [List.mem_cons, List.not_mem_nil, or_false] at hy
      rcases hy with rfl | rfl
      · exact .inl ⟨_, rfl⟩
      · exact .inl ⟨_, rfl⟩
    · exact ⟨_, _, _, rfl, sg.trans (sh.trans sl2')⟩
end
end Z
open PySem PySem.W PyProof.Rows
set_option maxRecDepth 100000
set_option maxHeartbeats 0
theorem PySem.Challenge.cw_tiedsteps_k03_whole_values_of_terms_holds : PySem.Challenge.rw_tiedsteps_k03_whole_values_of_terms.Holds := by
  refine hd ?_
  intro said hw
  refine PySem.W.holds_open (r := PySem.Challenge.rw_tiedsteps_k03_whole_values_of_terms.row) (q := Hq.vw) (loose := Hq.ls) (Xt := Hq.Xt) (XP := XL Hq.vw []) (YP := Hook.says (kHook hd.heap_39 ((hd.heap_39 Hq.P0).map (·.1)) Hq.adds)) Hq.leftR (Hook.of (kHook hd.heap_39 ((hd.heap_39 Hq.P0).map (·.1)) Hq.adds)) (Hook.keeps (kHook hd.heap_39 ((hd.heap_39 Hq.P0).map (·.1)) Hq.adds)) (fun s e => xl_of s (Bool.and_eq_true_iff.mp e).1) XL.keeps Hq.hdef Hq.hthe Hq.hkw (fun s e => recFacts_of (Bool.and_eq_true_iff.mp e).2) (by rfl) said Hq.hok Hq.hbare hw ?_
  clear said hw
  k_fill
  refine Z.walkG (l := PySem.Challenge.rw_tiedsteps_k03_whole_values_of_terms) (n := 63) (k := 30) (x := "script") (CX := fun _ => L2.CX0) (sp := fun w => Z.spLaw (hd.heap_39 w.params)) rfl (by decide) Hq.hdfl ⟨rfl, by decide, by decide⟩ (fun w h Y => PySem.W.kIn_of Y) ?F ?G ?H
  case G => exact fun w H s ns hl hb hO hS => ⟨s, ns, rfl, hS, hb, fun _ => rfl⟩
  case H => exact fun _ _ _ _ _ z => z
  case F =>
    intro w mg fa h KX G hmg
    have T : ∃ a : Z.Ad, Z.Tx PySem.Challenge.rw_tiedsteps_k03_whole_values_of_terms.prog (hd.heap_39 w.params) mg a := ?T
    case T =>
      clear hmg
      refine' Z.tx_mk (P := PySem.Challenge.rw_tiedsteps_k03_whole_values_of_terms.prog) KX G ?h_g_TiedError ?h_g_NoTerm ?h_l_NoTerm ?h_r_NoTerm ?h_s_NoTerm ?h_n_NoTerm ?h_i_NoTerm ?h_t_NoTerm ?h_k_NoTerm ?h_x_NoTerm ?h_v_NoTerm ?h_y_NoTerm ?h_xf_NoTerm ?h_fn_NoTerm ?h_cd_NoTerm ?h_lc_NoTerm ?h_v2_NoTerm ?h_fi_NoTerm ?h_ln_NoTerm ?h_ce_NoTerm ?h_se_NoTerm ?h_up_NoTerm ?h_te_NoTerm ?h_kb_NoTerm_TiedError ?h_g_NoName ?h_l_NoName ?h_s_NoName ?h_n_NoName ?h_i_NoName ?h_t_NoName ?h_k_NoName ?h_x_NoName ?h_v_NoName ?h_y_NoName ?h_xf_NoName ?h_fn_NoName ?h_cd_NoName ?h_lc_NoName ?h_v2_NoName ?h_fi_NoName ?h_ln_NoName ?h_ce_NoName ?h_se_NoName ?h_up_NoName ?h_te_NoName ?h_kr_NoName ?h_b_KeyError ?h_v_LETTERS ?h_v_DIGITS ?h_v_MOST_LETTERS ?h_a_is_whole ?h_l_is_whole ?h_c_is_whole ?h_k_is_whole ?h_a_is_number ?h_l_is_number ?h_c_is_number ?h_k_is_number ?h_a_is_word ?h_l_is_word ?h_c_is_word ?h_k_is_word ?h_a_is_digit ?h_l_is_digit ?h_c_is_digit ?h_k_is_digit ?h_a_ascending_words ?h_l_ascending_words ?h_c_ascending_words ?h_k_ascending_words ?h_a_ascending_numbers ?h_l_ascending_numbers ?h_c_ascending_numbers ?h_k_ascending_numbers ?h_v_MOST_DEPTH ?h_v_MOST_CONSTANT ?h_v_SIGNS ?h_w_SIGNS ?h_a_word_at ?h_l_word_at ?h_c_word_at ?h_k_word_at ?h_a_plan_at ?h_l_plan_at ?h_c_plan_at ?h_k_plan_at ?h_a_text_of ?h_l_text_of ?h_c_text_of ?h_k_text_of ?h_a_leaves_of ?h_l_leaves_of ?h_c_leaves_of ?h_k_leaves_of ?h_a_value_of ?h_l_value_of ?h_c_value_of ?h_k_value_of ?h_a_stands_in ?h_l_stands_in ?h_c_stands_in ?h_k_stands_in ?h_a_plan_of ?h_l_plan_of ?h_c_plan_of ?h_k_plan_of ?h_g_Term ?h_pg_Term ?h_hd_Term ?h_po_Term ?h_sa_Term ?h_kp_Term ?h_ty_Term ?h_mo_Term ?h_kit_Term_NoneType ?h_kit_Term_bool ?h_kit_Term_int ?h_kit_Term_str ?h_kit_Term_list ?h_kit_Term_tuple ?h_kit_Term_dict ?h_kik_Term_list ?h_kik_Term_tuple ?h_kik_Term_str ?h_kit_Term ?h_l_Term___init__ ?h_c_Term___init__ ?h_k_Term___init__ ?h_a_Term___init__ ?h_i_Term___init__ ?h_mk_Term ?h_l_Term_choice ?h_c_Term_choice ?h_k_Term_choice ?h_r1_Term_choice ?h_r2_Term_choice ?h_r3_Term_choice ?h_r4_Term_choice ?h_l_Term___str__ ?h_c_Term___str__ ?h_k_Term___str__ ?h_a_Term___str__ ?h_i_Term___str__ ?h_fm_Term ?h_l_Term_variables ?h_c_Term_variables ?h_k_Term_variables ?h_a_Term_variables ?h_i_Term_variables ?h_l_Term_constants ?h_c_Term_constants ?h_k_Term_constants ?h_a_Term_constants ?h_i_Term_constants ?h_l_Term_parts ?h_c_Term_parts ?h_k_Term_parts ?h_a_Term_parts ?h_i_Term_parts ?h_l_Term___call__ ?h_c_Term___call__ ?h_k_Term___call__ ?h_a_Term___call__ ?h_i_Term___call__ ?h_o_Term___call__ ?h_l_Term___eq__ ?h_c_Term___eq__ ?h_k_Term___eq__ ?h_a_Term___eq__ ?h_i_Term___eq__ ?h_ne_Term ?h_nf_Term ?h_nx_Term_int ?h_nx_Term_tuple ?h_nx_Term_NoneType ?h_nx_Term_bool ?h_nx_Term_list ?h_nx_Term_dict ?h_l_Term_within ?h_c_Term_within ?h_k_Term_within ?h_a_Term_within ?h_i_Term_within ?h_no_Term_tree ?h_a__law_pool ?h_l__law_pool ?h_c__law_pool ?h_k__law_pool ?h_a__law_take ?h_l__law_take ?h_c__law_take ?h_k__law_take ?h_a__law_one ?h_l__law_one ?h_c__law_one ?h_k__law_one ?h_a__law_part ?h_l__law_part ?h_c__law_part ?h_k__law_part ?h_a__law_words ?h_l__law_words ?h_c__law_words ?h_k__law_words ?h_a__law_tree ?h_l__law_tree ?h_c__law_tree ?h_k__law_tree ?h_a__law_tree_text ?h_l__law_tree_text ?h_c__law_tree_text ?h_k__law_tree_text ?h_a__law_tree_leaves ?h_l__law_tree_leaves ?h_c__law_tree_leaves ?h_k__law_tree_leaves ?h_a__law_tree_words ?h_l__law_tree_words ?h_c__law_tree_words ?h_k__law_tree_words ?h_a__law_tree_digits ?h_l__law_tree_digits ?h_c__law_tree_digits ?h_k__law_tree_digits ?h_a__law_tree_worth ?h_l__law_tree_worth ?h_c__law_tree_worth ?h_k__law_tree_worth ?h_a__law_told ?h_l__law_told ?h_c__law_told ?h_k__law_told ?h_a__law_due ?h_l__law_due ?h_c__law_due ?h_k__law_due ?h_a__law_moved_right ?h_l__law_moved_right ?h_c__law_moved_right ?h_k__law_moved_right ?h_a_law ?h_l_law ?h_c_law ?h_k_law ?h_tq_NoName_NoTerm ?h_tq_NoTerm_NoName ?h_ki_NoName_TiedError ?h_ki_TiedError_TiedError ?h_xc_NoName ?h_xm_NoName ?h_xi_NoName ?h_xc_NoTerm ?h_xm_NoTerm ?h_xi_NoTerm ?h_b_len ?h_b_max ?h_b_min ?h_b_int ?h_b_str ?h_b_tuple ?h_b_list ?h_b_bool ?h_b_dict ?h_b_set ?h_b_isinstance ?h_b_sorted ?h_b_repr ?h_b_range ?h_b_enumerate ?h_b_zip ?h_b_sum ?h_b_all ?h_b_any ?h_sup ?h_topS ?h_opq ?h_tn ?h_tt
      (case h_g_TiedError => first | k_is | rfl | decide)
      (case h_g_NoTerm => first | k_is | rfl | decide)
      (case h_g_NoName => first | k_is | rfl | decide)
      (case h_g_Term => first | k_is | rfl | decide)
      (case h_r3_Term_choice => first | k_is | rfl | decide)
      (case h_r4_Term_choice => first | k_is | rfl | decide)
      (case h_a_is_whole => first | k_is | rfl | decide)
      (case h_a_is_number => first | k_is | rfl | decide)
      (case h_a_is_word => first | k_is | rfl | decide)
      (case h_a_is_digit => first | k_is | rfl | decide)
      (case h_a_ascending_words => first | k_is | rfl | decide)
      (case h_a_ascending_numbers => first | k_is | rfl | decide)
      (case h_a_word_at => first | k_is | rfl | decide)
      (case h_a_plan_at => first | k_is | rfl | decide)
      (case h_a_text_of => first | k_is | rfl | decide)
      (case h_a_leaves_of => first | k_is | rfl | decide)
      (case h_a_value_of => first | k_is | rfl | decide)
      (case h_a_stands_in => first | k_is | rfl | decide)
      (case h_a_plan_of => first | k_is | rfl | decide)
      (case h_a_Term___init__ => first | k_is | rfl | decide)
      (case h_a_Term___str__ => first | k_is | rfl | decide)
      (case h_a_Term_variables => first | k_is | rfl | decide)
      (case h_a_Term_constants => first | k_is | rfl | decide)
      (case h_a_Term_parts => first | k_is | rfl | decide)
      (case h_a_Term___call__ => first | k_is | rfl | decide)
      (case h_a_Term___eq__ => first | k_is | rfl | decide)
      (case h_a_Term_within => first | k_is | rfl | decide)
      (case h_a__law_pool => first | k_is | rfl | decide)
      (case h_a__law_take => first | k_is | rfl | decide)
      (case h_a__law_one => first | k_is | rfl | decide)
      (case h_a__law_part => first | k_is | rfl | decide)
      (case h_a__law_words => first | k_is | rfl | decide)
      (case h_a__law_tree => first | k_is | rfl | decide)
      (case h_a__law_tree_text => first | k_is | rfl | decide)
      (case h_a__law_tree_leaves => first | k_is | rfl | decide)
      (case h_a__law_tree_words => first | k_is | rfl | decide)
      (case h_a__law_tree_digits => first | k_is | rfl | decide)
      (case h_a__law_tree_worth => first | k_is | rfl | decide)
      (case h_a__law_told => first | k_is | rfl | decide)
      (case h_a__law_due => first | k_is | rfl | decide)
      (case h_a__law_moved_right => first | k_is | rfl | decide)
      (case h_a_law => first | k_is | rfl | decide)
      (case h_v_NoTerm => first | k_is | rfl | decide)
      (case h_v_NoName => first | k_is | rfl | decide)
      (case h_v_LETTERS => first | k_is | rfl | decide)
      (case h_v_DIGITS => first | k_is | rfl | decide)
      (case h_v_MOST_LETTERS => first | k_is | rfl | decide)
      (case h_v_MOST_DEPTH => first | k_is | rfl | decide)
      (case h_v_MOST_CONSTANT => first | k_is | rfl | decide)
      (case h_v_SIGNS => first | k_is | rfl | decide)
      (case h_w_SIGNS => first | k_is | rfl | decide)
      (case h_i_NoTerm => first | k_is | rfl | decide)
      (case h_i_NoName => first | k_is | rfl | decide)
      (case h_i_Term___init__ => first | k_is | rfl | decide)
      (case h_i_Term___str__ => first | k_is | rfl | decide)
      (case h_i_Term_variables => first | k_is | rfl | decide)
      (case h_i_Term_constants => first | k_is | rfl | decide)
      (case h_i_Term_parts => first | k_is | rfl | decide)
      (case h_i_Term___call__ => first | k_is | rfl | decide)
      (case h_i_Term___eq__ => first | k_is | rfl | decide)
      (case h_i_Term_within => first | k_is | rfl | decide)
      (case h_fn_NoTerm => first | k_is | rfl | decide)
      (case h_fn_NoName => first | k_is | rfl | decide)
      (case h_l_NoTerm => first | k_is | rfl | decide)
      (case h_l_NoName => first | k_is | rfl | decide)
      (case h_l_is_whole => first | k_is | rfl | decide)
      (case h_l_is_number => first | k_is | rfl | decide)
      (case h_l_is_word => first | k_is | rfl | decide)
      (case h_l_is_digit => first | k_is | rfl | decide)
      (case h_l_ascending_words => first | k_is | rfl | decide)
      (case h_l_ascending_numbers => first | k_is | rfl | decide)
      (case h_l_word_at => first | k_is | rfl | decide)
      (case h_l_plan_at => first | k_is | rfl | decide)
      (case h_l_text_of => first | k_is | rfl | decide)
      (case h_l_leaves_of => first | k_is | rfl | decide)
      (case h_l_value_of => first | k_is | rfl | decide)
      (case h_l_stands_in => first | k_is | rfl | decide)
      (case h_l_plan_of => first | k_is | rfl | decide)
      (case h_l_Term___init__ => first | k_is | rfl | decide)
      (case h_l_Term_choice => first | k_is | rfl | decide)
      (case h_l_Term___str__ => first | k_is | rfl | decide)
      (case h_l_Term_variables => first | k_is | rfl | decide)
      (case h_l_Term_constants => first | k_is | rfl | decide)
      (case h_l_Term_parts => first | k_is | rfl | decide)
      (case h_l_Term___call__ => first | k_is | rfl | decide)
      (case h_l_Term___eq__ => first | k_is | rfl | decide)
      (case h_l_Term_within => first | k_is | rfl | decide)
      (case h_l__law_pool => first | k_is | rfl | decide)
      (case h_l__law_take => first | k_is | rfl | decide)
      (case h_l__law_one => first | k_is | rfl | decide)
      (case h_l__law_part => first | k_is | rfl | decide)
      (case h_l__law_words => first | k_is | rfl | decide)
      (case h_l__law_tree => first | k_is | rfl | decide)
      (case h_l__law_tree_text => first | k_is | rfl | decide)
      (case h_l__law_tree_leaves => first | k_is | rfl | decide)
      (case h_l__law_tree_words => first | k_is | rfl | decide)
      (case h_l__law_tree_digits => first | k_is | rfl | decide)
      (case h_l__law_tree_worth => first | k_is | rfl | decide)
      (case h_l__law_told => first | k_is | rfl | decide)
      (case h_l__law_due => first | k_is | rfl | decide)
      (case h_l__law_moved_right => first | k_is | rfl | decide)
      (case h_l_law => first | k_is | rfl | decide)
      (case h_lc_NoTerm => first | k_is | rfl | decide)
      (case h_lc_NoName => first | k_is | rfl | decide)
      (case h_r_NoTerm => first | k_is | rfl | decide)
      (case h_s_NoTerm => first | k_is | rfl | decide)
      (case h_n_NoTerm => first | k_is | rfl | decide)
      (case h_t_NoTerm => first | k_is | rfl | decide)
      (case h_k_NoTerm => first | k_is | rfl | decide)
      (case h_x_NoTerm => first | k_is | rfl | decide)
      (case h_y_NoTerm => first | k_is | rfl | decide)
      (case h_xf_NoTerm => first | k_is | rfl | decide)
      (case h_cd_NoTerm => first | k_is | rfl | decide)
      (case h_v2_NoTerm => first | k_is | rfl | decide)
      (case h_fi_NoTerm => first | k_is | rfl | decide)
      (case h_ln_NoTerm => first | k_is | rfl | decide)
      (case h_ce_NoTerm => first | k_is | rfl | decide)
      (case h_se_NoTerm => first | k_is | rfl | decide)
      (case h_up_NoTerm => first | k_is | rfl | decide)
      (case h_te_NoTerm => first | k_is | rfl | decide)
      (case h_kb_NoTerm_TiedError => first | k_is | rfl | decide)
      (case h_s_NoName => first | k_is | rfl | decide)
      (case h_n_NoName => first | k_is | rfl | decide)
      (case h_t_NoName => first | k_is | rfl | decide)
      (case h_k_NoName => first | k_is | rfl | decide)
      (case h_x_NoName => first | k_is | rfl | decide)
      (case h_y_NoName => first | k_is | rfl | decide)
      (case h_xf_NoName => first | k_is | rfl | decide)
      (case h_cd_NoName => first | k_is | rfl | decide)
      (case h_v2_NoName => first | k_is | rfl | decide)
      (case h_fi_NoName => first | k_is | rfl | decide)
      (case h_ln_NoName => first | k_is | rfl | decide)
      (case h_ce_NoName => first | k_is | rfl | decide)
      (case h_se_NoName => first | k_is | rfl | decide)
      (case h_up_NoName => first | k_is | rfl | decide)
      (case h_te_NoName => first | k_is | rfl | decide)
      (case h_kr_NoName => first | k_is | rfl | decide)
      (case h_b_KeyError => first | k_is | rfl | decide)
      (case h_c_is_whole => first | k_is | rfl | decide)
      (case h_k_is_whole => first | k_is | rfl | decide)
      (case h_c_is_number => first | k_is | rfl | decide)
      (case h_k_is_number => first | k_is | rfl | decide)
      (case h_c_is_word => first | k_is | rfl | decide)
      (case h_k_is_word => first | k_is | rfl | decide)
      (case h_c_is_digit => first | k_is | rfl | decide)
      (case h_k_is_digit => first | k_is | rfl | decide)
      (case h_c_ascending_words => first | k_is | rfl | decide)
      (case h_k_ascending_words => first | k_is | rfl | decide)
      (case h_c_ascending_numbers => first | k_is | rfl | decide)
      (case h_k_ascending_numbers => first | k_is | rfl | decide)
      (case h_c_word_at => first | k_is | rfl | decide)
      (case h_k_word_at => first | k_is | rfl | decide)
      (case h_c_plan_at => first | k_is | rfl | decide)
      (case h_k_plan_at => first | k_is | rfl | decide)
      (case h_c_text_of => first | k_is | rfl | decide)
      (case h_k_text_of => first | k_is | rfl | decide)
      (case h_c_leaves_of => first | k_is | rfl | decide)
      (case h_k_leaves_of => first | k_is | rfl | decide)
      (case h_c_value_of => first | k_is | rfl | decide)
      (case h_k_value_of => first | k_is | rfl | decide)
      (case h_c_stands_in => first | k_is | rfl | decide)
      (case h_k_stands_in => first | k_is | rfl | decide)
      (case h_c_plan_of => first | k_is | rfl | decide)
      (case h_k_plan_of => first | k_is | rfl | decide)
      (case h_pg_Term => first | k_is | rfl | decide)
      (case h_hd_Term => first | k_is | rfl | decide)
      (case h_po_Term => first | k_is | rfl | decide)
      (case h_sa_Term => first | k_is | rfl | decide)
      (case h_kp_Term => first | k_is | rfl | decide)
      (case h_ty_Term => first | k_is | rfl | decide)
      (case h_mo_Term => first | k_is | rfl | decide)
      (case h_kit_Term_NoneType => first | k_is | rfl | decide)
      (case h_kit_Term_bool => first | k_is | rfl | decide)
      (case h_kit_Term_int => first | k_is | rfl | decide)
      (case h_kit_Term_str => first | k_is | rfl | decide)
      (case h_kit_Term_list => first | k_is | rfl | decide)
      (case h_kit_Term_tuple => first | k_is | rfl | decide)
      (case h_kit_Term_dict => first | k_is | rfl | decide)
      (case h_kik_Term_list => first | k_is | rfl | decide)
      (case h_kik_Term_tuple => first | k_is | rfl | decide)
      (case h_kik_Term_str => first | k_is | rfl | decide)
      (case h_kit_Term => first | k_is | rfl | decide)
      (case h_c_Term___init__ => first | k_is | rfl | decide)
      (case h_k_Term___init__ => first | k_is | rfl | decide)
      (case h_mk_Term => first | k_is | rfl | decide)
      (case h_c_Term_choice => first | k_is | rfl | decide)
      (case h_k_Term_choice => first | k_is | rfl | decide)
      (case h_r1_Term_choice => first | k_is | rfl | decide)
      (case h_r2_Term_choice => first | k_is | rfl | decide)
      (case h_c_Term___str__ => first | k_is | rfl | decide)
      (case h_k_Term___str__ => first | k_is | rfl | decide)
      (case h_fm_Term => first | k_is | rfl | decide)
      (case h_c_Term_variables => first | k_is | rfl | decide)
      (case h_k_Term_variables => first | k_is | rfl | decide)
      (case h_c_Term_constants => first | k_is | rfl | decide)
      (case h_k_Term_constants => first | k_is | rfl | decide)
      (case h_c_Term_parts => first | k_is | rfl | decide)
      (case h_k_Term_parts => first | k_is | rfl | decide)
      (case h_c_Term___call__ => first | k_is | rfl | decide)
      (case h_k_Term___call__ => first | k_is | rfl | decide)
      (case h_o_Term___call__ => first | k_is | rfl | decide)
      (case h_c_Term___eq__ => first | k_is | rfl | decide)
      (case h_k_Term___eq__ => first | k_is | rfl | decide)
      (case h_ne_Term => first | k_is | rfl | decide)
      (case h_nf_Term => first | k_is | rfl | decide)
      (case h_nx_Term_int => first | k_is | rfl | decide)
      (case h_nx_Term_tuple => first | k_is | rfl | decide)
      (case h_nx_Term_NoneType => first | k_is | rfl | decide)
      (case h_nx_Term_bool => first | k_is | rfl | decide)
      (case h_nx_Term_list => first | k_is | rfl | decide)
      (case h_nx_Term_dict => first | k_is | rfl | decide)
      (case h_c_Term_within => first | k_is | rfl | decide)
      (case h_k_Term_within => first | k_is | rfl | decide)
      (case h_no_Term_tree => first | k_is | rfl | decide)
      (case h_c__law_pool => first | k_is | rfl | decide)
      (case h_k__law_pool => first | k_is | rfl | decide)
      (case h_c__law_take => first | k_is | rfl | decide)
      (case h_k__law_take => first | k_is | rfl | decide)
      (case h_c__law_one => first | k_is | rfl | decide)
      (case h_k__law_one => first | k_is | rfl | decide)
      (case h_c__law_part => first | k_is | rfl | decide)
      (case h_k__law_part => first | k_is | rfl | decide)
      (case h_c__law_words => first | k_is | rfl | decide)
      (case h_k__law_words => first | k_is | rfl | decide)
      (case h_c__law_tree => first | k_is | rfl | decide)
      (case h_k__law_tree => first | k_is | rfl | decide)
      (case h_c__law_tree_text => first | k_is | rfl | decide)
      (case h_k__law_tree_text => first | k_is | rfl | decide)
      (case h_c__law_tree_leaves => first | k_is | rfl | decide)
      (case h_k__law_tree_leaves => first | k_is | rfl | decide)
      (case h_c__law_tree_words => first | k_is | rfl | decide)
      (case h_k__law_tree_words => first | k_is | rfl | decide)
      (case h_c__law_tree_digits => first | k_is | rfl | decide)
      (case h_k__law_tree_digits => first | k_is | rfl | decide)
      (case h_c__law_tree_worth => first | k_is | rfl | decide)
      (case h_k__law_tree_worth => first | k_is | rfl | decide)
      (case h_c__law_told => first | k_is | rfl | decide)
      (case h_k__law_told => first | k_is | rfl | decide)
      (case h_c__law_due => first | k_is | rfl | decide)
      (case h_k__law_due => first | k_is | rfl | decide)
      (case h_c__law_moved_right => first | k_is | rfl | decide)
      (case h_k__law_moved_right => first | k_is | rfl | decide)
      (case h_c_law => first | k_is | rfl | decide)
      (case h_k_law => first | k_is | rfl | decide)
      (case h_tq_NoName_NoTerm => first | k_is | rfl | decide)
      (case h_tq_NoTerm_NoName => first | k_is | rfl | decide)
      (case h_ki_NoName_TiedError => first | k_is | rfl | decide)
      (case h_ki_TiedError_TiedError => first | k_is | rfl | decide)
      (case h_xc_NoName => first | k_is | rfl | decide)
      (case h_xm_NoName => first | k_is | rfl | decide)
      (case h_xi_NoName => first | k_is | rfl | decide)
      (case h_xc_NoTerm => first | k_is | rfl | decide)
      (case h_xm_NoTerm => first | k_is | rfl | decide)
      (case h_xi_NoTerm => first | k_is | rfl | decide)
      (case h_b_len => first | k_is | rfl | decide)
      (case h_b_max => first | k_is | rfl | decide)
      (case h_b_min => first | k_is | rfl | decide)
      (case h_b_int => first | k_is | rfl | decide)
      (case h_b_str => first | k_is | rfl | decide)
      (case h_b_tuple => first | k_is | rfl | decide)
      (case h_b_list => first | k_is | rfl | decide)
      (case h_b_bool => first | k_is | rfl | decide)
      (case h_b_dict => first | k_is | rfl | decide)
      (case h_b_set => first | k_is | rfl | decide)
      (case h_b_isinstance => first | k_is | rfl | decide)
      (case h_b_sorted => first | k_is | rfl | decide)
      (case h_b_repr => first | k_is | rfl | decide)
      (case h_b_range => first | k_is | rfl | decide)
      (case h_b_enumerate => first | k_is | rfl | decide)
      (case h_b_zip => first | k_is | rfl | decide)
      (case h_b_sum => first | k_is | rfl | decide)
      (case h_b_all => first | k_is | rfl | decide)
      (case h_b_any => first | k_is | rfl | decide)
      (case h_sup => first | k_is | rfl | decide)
      (case h_topS => first | k_is | rfl | decide)
      (case h_opq => first | k_is | rfl | decide)
      (case h_tn => first | k_is | rfl | decide)
      (case h_tt => first | k_is | rfl | decide)
    obtain ⟨a, T⟩ := T
    have e := hmg.symm.trans T.law.mg
    cases e
    exact ⟨a.d_law, T.blaw, fun base _ _ => Z.ok_law T⟩
